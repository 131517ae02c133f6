import Derived.Test.YtllgmgpfdnofmaaZNDPFnNodesx0
import Derived.Test.YtllgmgpfdnofmaaZNDPFnNodesx1
import Derived.Test.YtllgmgpfdnofmaaZNDPFnNodesx2
import Derived.Test.YtllgmgpfdnofmaaZNDPFnNodesx5
import Derived.Test.YtllgmgpfdnofmaaZNDPFnNodesx6
import Derived.Test.YtllgmgpfdnofmaaZNDPFnNodesx8
import Derived.Test.YtllgmgpfdnofmaaZNDPFnNodesx10
import Derived.Test.YtllgmgpfdnofmaaZNDPFnNodesx11
import Derived.Test.YtllgmgpfdnofmaaZNDPFnNodesx15
import Derived.Test.YtllgmgpfdnofmaaZNDPFnNodesx16
namespace Go.Proofs.Ytllgmgpfdnofmaa.PFnNodes
open Go.RowKit Go.Proofs.YtllgmgpfdnofmaaW.PrintWords Go.Proofs.YtllgmgpfdnofmaaW.PrintLast Go.Proofs.YtllgmgpfdnofmaaW.PrintMore Go.Proofs.Ytllgmgpfdnofmaa.Xtra
attribute [local go_sem] max2_int min2_int max_two min_two max_three min_three max_four min_four str_leq str_gtr str_geq setCell_drewN cell_set2 cell_set3   -- for this text's walks alone
set_option linter.unusedVariables false
set_option linter.unusedSimpArgs false
def laws_FnNodes.j0 : Nat → List Int → Bool → Bool → List ByteArray → List ByteArray → List Int → Option (Bool)
 | 0,_,_,_,_,_,_=>none
 | k + 1,x4,x54,x503000,x503001,x503002,x503003=>if x54 = true then (some false) else ((spec_NodeOk.f k x503000 x503001 x503002 x503003).bind fun t542=>(if t542 = true then ((impl_GetNode.f k x4).bind fun bt544=>(if bt544.2.2.2.2 = true then ((impl_SameNode.f k bt544.1 bt544.2.1 bt544.2.2.1 bt544.2.2.2.1 x503000 x503001 x503002 x503003).bind fun t556=>(if t556 = true then ((impl_NodeOk.f k x503000 x503001 x503002 x503003).bind fun t557=>(if t557 = true then ((impl_SizeOf.f k x503000 x503001 x503002 x503003).bind fun t558=>(if (x4.length : Int) = t558 then (some (decide ((x4.length : Int) ≤ 240))) else (some false))) else (some false))) else (some false))) else (some false))) else (if (x4.length : Int) = 0 then ((impl_NodeOk.f k x503000 x503001 x503002 x503003).bind fun t543=>(some (!t543))) else (some false))))
def laws_FnNodes.f (k : Nat) (l0 : List Int) : Option (Bool):=(laws_big.f l0).bind fun t491=>(if t491 = true then (some true) else ((spec_DrawPutNode.f k l0).bind fun bt492=>((impl_PutNode.f k bt492.1 bt492.2.1 bt492.2.2.1 bt492.2.2.2).bind fun t503=>((spec_DrawGetNode.f k l0).bind fun t506=>((impl_GetNode.f k t506).bind fun bt509=>((spec_GetNode.f k t506).bind fun bt521=>(if (bt509.2.2.2.2 != bt521.2.2.2.2) = true then (laws_FnNodes.j0 k t503 true bt492.1 bt492.2.1 bt492.2.2.1 bt492.2.2.2) else (if bt509.2.2.2.2 = true then ((impl_NodeOk.f k bt509.1 bt509.2.1 bt509.2.2.1 bt509.2.2.2.1).bind fun t533=>(if t533 = true then ((impl_PutNode.f k bt509.1 bt509.2.1 bt509.2.2.1 bt509.2.2.2.1).bind fun t534=>((laws_sameBytes.f k t534 t506).bind fun t537=>(if t537 = true then ((impl_SizeOf.f k bt492.1 bt492.2.1 bt492.2.2.1 bt492.2.2.2).bind fun t538=>((spec_SizeOf.f k bt492.1 bt492.2.1 bt492.2.2.1 bt492.2.2.2).bind fun t539=>(laws_FnNodes.j0 k t503 (t538 != t539) bt492.1 bt492.2.1 bt492.2.2.1 bt492.2.2.2))) else (laws_FnNodes.j0 k t503 true bt492.1 bt492.2.1 bt492.2.2.1 bt492.2.2.2)))) else (laws_FnNodes.j0 k t503 true bt492.1 bt492.2.1 bt492.2.2.1 bt492.2.2.2))) else ((impl_SizeOf.f k bt492.1 bt492.2.1 bt492.2.2.1 bt492.2.2.2).bind fun t540=>((spec_SizeOf.f k bt492.1 bt492.2.1 bt492.2.2.1 bt492.2.2.2).bind fun t541=>(laws_FnNodes.j0 k t503 (t540 != t541) bt492.1 bt492.2.1 bt492.2.2.1 bt492.2.2.2)))))))))))
theorem laws_FnNodes.mono_l : ∀ k,(∀ y0 y1 y2 y3 y4 y5,LeO (laws_FnNodes.j0 k y0 y1 y2 y3 y4 y5) (laws_FnNodes.j0 (k + 1) y0 y1 y2 y3 y4 y5))
 | 0=>fun _ _ _ _ _ _ r h=>by simp [laws_FnNodes.j0] at h
 | k + 1=>by
  have ih0:=laws_FnNodes.mono_l k
  ·intro y0 y1 y2 y3 y4 y5
   unfold laws_FnNodes.j0
   repeat' first
   | (with_reducible exact ih0 _ _ _ _ _ _)
   | (with_reducible exact impl_GetNode.mono _ _)
   | (with_reducible exact impl_NodeOk.mono _ _ _ _ _)
   | (with_reducible exact impl_PutNode.mono _ _ _ _ _)
   | (with_reducible exact impl_SameNode.mono _ _ _ _ _ _ _ _ _)
   | (with_reducible exact impl_SizeOf.mono _ _ _ _ _)
   | (with_reducible exact laws_sameBytes.mono _ _ _)
   | (with_reducible exact spec_DrawGetNode.mono _ _)
   | (with_reducible exact spec_DrawPutNode.mono _ _)
   | (with_reducible exact spec_GetNode.mono _ _)
   | (with_reducible exact spec_NodeOk.mono _ _ _ _ _)
   | (with_reducible exact spec_SizeOf.mono _ _ _ _ _)
   | (with_reducible exact LeO.refl _)
   | (with_reducible exact LeO.none _)
   | (with_reducible refine LeO.ite ?_ ?_)
   | (with_reducible refine LeO.bind ?_ (fun _=>?_))
   | exact ih0 _ _ _ _ _ _
   | exact impl_GetNode.mono _ _
   | exact impl_NodeOk.mono _ _ _ _ _
   | exact impl_PutNode.mono _ _ _ _ _
   | exact impl_SameNode.mono _ _ _ _ _ _ _ _ _
   | exact impl_SizeOf.mono _ _ _ _ _
   | exact laws_sameBytes.mono _ _ _
   | exact spec_DrawGetNode.mono _ _
   | exact spec_DrawPutNode.mono _ _
   | exact spec_GetNode.mono _ _
   | exact spec_NodeOk.mono _ _ _ _ _
   | exact spec_SizeOf.mono _ _ _ _ _
   | exact LeO.none _
   | refine LeO.ite ?_ ?_
   | refine LeO.bind ?_ (fun _=>?_)
theorem laws_FnNodes.mono : ∀ a0 k,LeO (laws_FnNodes.f k a0) (laws_FnNodes.f (k + 1) a0):=by
 intro a0 k
 have ih0:=laws_FnNodes.mono_l k
 unfold laws_FnNodes.f
 repeat' first
   | (with_reducible exact ih0 _ _ _ _ _ _)
   | (with_reducible exact impl_GetNode.mono _ _)
   | (with_reducible exact impl_NodeOk.mono _ _ _ _ _)
   | (with_reducible exact impl_PutNode.mono _ _ _ _ _)
   | (with_reducible exact impl_SameNode.mono _ _ _ _ _ _ _ _ _)
   | (with_reducible exact impl_SizeOf.mono _ _ _ _ _)
   | (with_reducible exact laws_sameBytes.mono _ _ _)
   | (with_reducible exact spec_DrawGetNode.mono _ _)
   | (with_reducible exact spec_DrawPutNode.mono _ _)
   | (with_reducible exact spec_GetNode.mono _ _)
   | (with_reducible exact spec_NodeOk.mono _ _ _ _ _)
   | (with_reducible exact spec_SizeOf.mono _ _ _ _ _)
   | (with_reducible exact LeO.refl _)
   | (with_reducible exact LeO.none _)
   | (with_reducible refine LeO.ite ?_ ?_)
   | (with_reducible refine LeO.bind ?_ (fun _=>?_))
   | exact ih0 _ _ _ _ _ _
   | exact impl_GetNode.mono _ _
   | exact impl_NodeOk.mono _ _ _ _ _
   | exact impl_PutNode.mono _ _ _ _ _
   | exact impl_SameNode.mono _ _ _ _ _ _ _ _ _
   | exact impl_SizeOf.mono _ _ _ _ _
   | exact laws_sameBytes.mono _ _ _
   | exact spec_DrawGetNode.mono _ _
   | exact spec_DrawPutNode.mono _ _
   | exact spec_GetNode.mono _ _
   | exact spec_NodeOk.mono _ _ _ _ _
   | exact spec_SizeOf.mono _ _ _ _ _
   | exact LeO.none _
   | refine LeO.ite ?_ ?_
   | refine LeO.bind ?_ (fun _=>?_)
def laws_FnNodes.T8 : Bool × List (List Nat × List Nat):=(true,[([],[]),([],[]),([0,1],[0,1]),([2],[2]),([3],[3]),([4,3,3],[3,4]),([5],[5]),([6,5,5],[5,6]),([7,5],[5,7]),([8,7,5],[5,8]),([9],[9]),([10,9,9],[9,10]),([9],[9]),([11,12,11,9],[9,11,12]),([13,9],[9,13]),([9,14,5],[5,9,14]),([5,15,3],[3,5,15]),([3,16],[3,16]),([17,13],[17]),([18],[18]),([19,18,18],[18,19]),([18],[18]),([21,20,18],[18,21]),([20,22,18],[18,20,22]),([18,23],[18,23])])
def laws_FnNodes.B8 : List Nat:=[0,0,3,7,15,31,63,127,255,511,1023,2047,1023,8191,16383,32767,65535,131071,262143,524287,1048575,524287,4194303,8388607,16777215]
theorem laws_FnNodes.tab8 : rtab .any (opsOf Try.f5 8) = laws_FnNodes.T8:=by kernel_rfl
theorem laws_FnNodes.bits8 : waitsOk laws_FnNodes.T8.2 laws_FnNodes.B8 = true:=by kernel_rfl
set_option maxHeartbeats 8000000 in
set_option maxRecDepth 100000 in
theorem laws_FnNodes.calls (k : Nat) (A0 : Option Addr) (c0 : Nat) (l0 : List Int) (r : Bool) (w : World) (hr0 : Kd.C (Kd.int .u8) w A0 l0.length l0) (hc0 : l0.length ≤ c0) (hr_ : Aside0 (r = true)) (h : laws_FnNodes.f k l0 = some r) :
  Calls Try.prog 5 #[.slice A0 l0.length c0] w fun e w'=>e = .returned (.bool r) ∧ Below w.heap.size w w':=by
 have hu29:=Try.underlying29
 have HR0:=aM_ hr0
 have HC0:=aM_ hc0
 clear hr0 hc0
 have HB:=aM_ (Below.refl w.heap.size w)
 have H : ((laws_big.f l0).bind fun t491=>(if t491 = true then (some true) else ((spec_DrawPutNode.f k l0).bind fun bt492=>((impl_PutNode.f k bt492.1 bt492.2.1 bt492.2.2.1 bt492.2.2.2).bind fun t503=>((spec_DrawGetNode.f k l0).bind fun t506=>((impl_GetNode.f k t506).bind fun bt509=>((spec_GetNode.f k t506).bind fun bt521=>(if (bt509.2.2.2.2 != bt521.2.2.2.2) = true then (laws_FnNodes.j0 k t503 true bt492.1 bt492.2.1 bt492.2.2.1 bt492.2.2.2) else (if bt509.2.2.2.2 = true then ((impl_NodeOk.f k bt509.1 bt509.2.1 bt509.2.2.1 bt509.2.2.2.1).bind fun t533=>(if t533 = true then ((impl_PutNode.f k bt509.1 bt509.2.1 bt509.2.2.1 bt509.2.2.2.1).bind fun t534=>((laws_sameBytes.f k t534 t506).bind fun t537=>(if t537 = true then ((impl_SizeOf.f k bt492.1 bt492.2.1 bt492.2.2.1 bt492.2.2.2).bind fun t538=>((spec_SizeOf.f k bt492.1 bt492.2.1 bt492.2.2.1 bt492.2.2.2).bind fun t539=>(laws_FnNodes.j0 k t503 (t538 != t539) bt492.1 bt492.2.1 bt492.2.2.1 bt492.2.2.2))) else (laws_FnNodes.j0 k t503 true bt492.1 bt492.2.1 bt492.2.2.1 bt492.2.2.2)))) else (laws_FnNodes.j0 k t503 true bt492.1 bt492.2.1 bt492.2.2.1 bt492.2.2.2))) else ((impl_SizeOf.f k bt492.1 bt492.2.1 bt492.2.2.1 bt492.2.2.2).bind fun t540=>((spec_SizeOf.f k bt492.1 bt492.2.1 bt492.2.2.1 bt492.2.2.2).bind fun t541=>(laws_FnNodes.j0 k t503 (t540 != t541) bt492.1 bt492.2.1 bt492.2.2.1 bt492.2.2.2)))))))))))) = some r:=h
 clear h
 replace H:=oB_ H
 obtain ⟨t491,A20,H⟩:=H
 replace H : (if t491 = true then (some true) else ((spec_DrawPutNode.f k l0).bind fun bt492=>((impl_PutNode.f k bt492.1 bt492.2.1 bt492.2.2.1 bt492.2.2.2).bind fun t503=>((spec_DrawGetNode.f k l0).bind fun t506=>((impl_GetNode.f k t506).bind fun bt509=>((spec_GetNode.f k t506).bind fun bt521=>(if (bt509.2.2.2.2 != bt521.2.2.2.2) = true then (laws_FnNodes.j0 k t503 true bt492.1 bt492.2.1 bt492.2.2.1 bt492.2.2.2) else (if bt509.2.2.2.2 = true then ((impl_NodeOk.f k bt509.1 bt509.2.1 bt509.2.2.1 bt509.2.2.2.1).bind fun t533=>(if t533 = true then ((impl_PutNode.f k bt509.1 bt509.2.1 bt509.2.2.1 bt509.2.2.2.1).bind fun t534=>((laws_sameBytes.f k t534 t506).bind fun t537=>(if t537 = true then ((impl_SizeOf.f k bt492.1 bt492.2.1 bt492.2.2.1 bt492.2.2.2).bind fun t538=>((spec_SizeOf.f k bt492.1 bt492.2.1 bt492.2.2.1 bt492.2.2.2).bind fun t539=>(laws_FnNodes.j0 k t503 (t538 != t539) bt492.1 bt492.2.1 bt492.2.2.1 bt492.2.2.2))) else (laws_FnNodes.j0 k t503 true bt492.1 bt492.2.1 bt492.2.2.1 bt492.2.2.2)))) else (laws_FnNodes.j0 k t503 true bt492.1 bt492.2.1 bt492.2.2.1 bt492.2.2.2))) else ((impl_SizeOf.f k bt492.1 bt492.2.1 bt492.2.2.1 bt492.2.2.2).bind fun t540=>((spec_SizeOf.f k bt492.1 bt492.2.1 bt492.2.2.1 bt492.2.2.2).bind fun t541=>(laws_FnNodes.j0 k t503 (t540 != t541) bt492.1 bt492.2.1 bt492.2.2.1 bt492.2.2.2))))))))))) = some r:=H
 have A2:=aM_ A20
 clear A20
 by_cases c3 : t491 = true
 ·subst c3
  have H1 : (some true) = some r:=by rw [if_pos rfl] at H;exact H
  clear H
  have H:=H1
  clear H1
  obtain rfl:=Option.some.inj H
  go_enter Try.func5,Try.ntmps5
  go_wp2_with (first | ((with_reducible refine gate_callee (f:=25) rfl ?_);refine goesL_ (some 13) rfl rfl Try.func25 (by kernel_rfl) rfl #[.slice A0 l0.length c0] rfl (by (try simp only [mA_,mC_,mN_]);first | done | rfl | (simp only [lD_,lT_];rfl)) ?_;(with_reducible refine (laws_big.calls _ _ l0 true _ ?side1 ?side2 A2.out).mono ?_);(case side1=>repeat (first | exact HR0.out | (with_reducible refine cA_ ?_ _) | (with_reducible refine cN_ ?_ _) | (with_reducible refine cD_ ?_)));(case side2=>exact HC0.out);rintro e w' ⟨rfl,⟨nd,rfl⟩⟩;refine ⟨_,rfl,?_⟩))
  go_ret
  exact ⟨by first | rfl | (simp [errW_none,errW_some] <;> rfl) | (simp [*, errW_none,errW_some] <;> rfl),by exact bZ_ HB⟩
 ·replace c3:=Bool.eq_false_iff.mpr c3
  subst c3
  have H1 : ((spec_DrawPutNode.f k l0).bind fun bt492=>((impl_PutNode.f k bt492.1 bt492.2.1 bt492.2.2.1 bt492.2.2.2).bind fun t503=>((spec_DrawGetNode.f k l0).bind fun t506=>((impl_GetNode.f k t506).bind fun bt509=>((spec_GetNode.f k t506).bind fun bt521=>(if (bt509.2.2.2.2 != bt521.2.2.2.2) = true then (laws_FnNodes.j0 k t503 true bt492.1 bt492.2.1 bt492.2.2.1 bt492.2.2.2) else (if bt509.2.2.2.2 = true then ((impl_NodeOk.f k bt509.1 bt509.2.1 bt509.2.2.1 bt509.2.2.2.1).bind fun t533=>(if t533 = true then ((impl_PutNode.f k bt509.1 bt509.2.1 bt509.2.2.1 bt509.2.2.2.1).bind fun t534=>((laws_sameBytes.f k t534 t506).bind fun t537=>(if t537 = true then ((impl_SizeOf.f k bt492.1 bt492.2.1 bt492.2.2.1 bt492.2.2.2).bind fun t538=>((spec_SizeOf.f k bt492.1 bt492.2.1 bt492.2.2.1 bt492.2.2.2).bind fun t539=>(laws_FnNodes.j0 k t503 (t538 != t539) bt492.1 bt492.2.1 bt492.2.2.1 bt492.2.2.2))) else (laws_FnNodes.j0 k t503 true bt492.1 bt492.2.1 bt492.2.2.1 bt492.2.2.2)))) else (laws_FnNodes.j0 k t503 true bt492.1 bt492.2.1 bt492.2.2.1 bt492.2.2.2))) else ((impl_SizeOf.f k bt492.1 bt492.2.1 bt492.2.2.1 bt492.2.2.2).bind fun t540=>((spec_SizeOf.f k bt492.1 bt492.2.1 bt492.2.2.1 bt492.2.2.2).bind fun t541=>(laws_FnNodes.j0 k t503 (t540 != t541) bt492.1 bt492.2.1 bt492.2.2.1 bt492.2.2.2)))))))))) = some r:=by rw [if_neg (show ¬ (false = true) by decide)] at H;exact H
  clear H
  have H:=H1
  clear H1
  replace H:=oB_ H
  obtain ⟨⟨t492,t493,t496,t499⟩,A40,H⟩:=H
  replace H : ((impl_PutNode.f k t492 t493 t496 t499).bind fun t503=>((spec_DrawGetNode.f k l0).bind fun t506=>((impl_GetNode.f k t506).bind fun bt509=>((spec_GetNode.f k t506).bind fun bt521=>(if (bt509.2.2.2.2 != bt521.2.2.2.2) = true then (laws_FnNodes.j0 k t503 true t492 t493 t496 t499) else (if bt509.2.2.2.2 = true then ((impl_NodeOk.f k bt509.1 bt509.2.1 bt509.2.2.1 bt509.2.2.2.1).bind fun t533=>(if t533 = true then ((impl_PutNode.f k bt509.1 bt509.2.1 bt509.2.2.1 bt509.2.2.2.1).bind fun t534=>((laws_sameBytes.f k t534 t506).bind fun t537=>(if t537 = true then ((impl_SizeOf.f k t492 t493 t496 t499).bind fun t538=>((spec_SizeOf.f k t492 t493 t496 t499).bind fun t539=>(laws_FnNodes.j0 k t503 (t538 != t539) t492 t493 t496 t499))) else (laws_FnNodes.j0 k t503 true t492 t493 t496 t499)))) else (laws_FnNodes.j0 k t503 true t492 t493 t496 t499))) else ((impl_SizeOf.f k t492 t493 t496 t499).bind fun t540=>((spec_SizeOf.f k t492 t493 t496 t499).bind fun t541=>(laws_FnNodes.j0 k t503 (t540 != t541) t492 t493 t496 t499))))))))) = some r:=H
  have A4:=aM_ A40
  clear A40
  replace H:=oB_ H
  obtain ⟨t503,A50,H⟩:=H
  replace H : ((spec_DrawGetNode.f k l0).bind fun t506=>((impl_GetNode.f k t506).bind fun bt509=>((spec_GetNode.f k t506).bind fun bt521=>(if (bt509.2.2.2.2 != bt521.2.2.2.2) = true then (laws_FnNodes.j0 k t503 true t492 t493 t496 t499) else (if bt509.2.2.2.2 = true then ((impl_NodeOk.f k bt509.1 bt509.2.1 bt509.2.2.1 bt509.2.2.2.1).bind fun t533=>(if t533 = true then ((impl_PutNode.f k bt509.1 bt509.2.1 bt509.2.2.1 bt509.2.2.2.1).bind fun t534=>((laws_sameBytes.f k t534 t506).bind fun t537=>(if t537 = true then ((impl_SizeOf.f k t492 t493 t496 t499).bind fun t538=>((spec_SizeOf.f k t492 t493 t496 t499).bind fun t539=>(laws_FnNodes.j0 k t503 (t538 != t539) t492 t493 t496 t499))) else (laws_FnNodes.j0 k t503 true t492 t493 t496 t499)))) else (laws_FnNodes.j0 k t503 true t492 t493 t496 t499))) else ((impl_SizeOf.f k t492 t493 t496 t499).bind fun t540=>((spec_SizeOf.f k t492 t493 t496 t499).bind fun t541=>(laws_FnNodes.j0 k t503 (t540 != t541) t492 t493 t496 t499)))))))) = some r:=H
  have A5:=aM_ A50
  clear A50
  replace H:=oB_ H
  obtain ⟨t506,A60,H⟩:=H
  replace H : ((impl_GetNode.f k t506).bind fun bt509=>((spec_GetNode.f k t506).bind fun bt521=>(if (bt509.2.2.2.2 != bt521.2.2.2.2) = true then (laws_FnNodes.j0 k t503 true t492 t493 t496 t499) else (if bt509.2.2.2.2 = true then ((impl_NodeOk.f k bt509.1 bt509.2.1 bt509.2.2.1 bt509.2.2.2.1).bind fun t533=>(if t533 = true then ((impl_PutNode.f k bt509.1 bt509.2.1 bt509.2.2.1 bt509.2.2.2.1).bind fun t534=>((laws_sameBytes.f k t534 t506).bind fun t537=>(if t537 = true then ((impl_SizeOf.f k t492 t493 t496 t499).bind fun t538=>((spec_SizeOf.f k t492 t493 t496 t499).bind fun t539=>(laws_FnNodes.j0 k t503 (t538 != t539) t492 t493 t496 t499))) else (laws_FnNodes.j0 k t503 true t492 t493 t496 t499)))) else (laws_FnNodes.j0 k t503 true t492 t493 t496 t499))) else ((impl_SizeOf.f k t492 t493 t496 t499).bind fun t540=>((spec_SizeOf.f k t492 t493 t496 t499).bind fun t541=>(laws_FnNodes.j0 k t503 (t540 != t541) t492 t493 t496 t499))))))) = some r:=H
  have A6:=aM_ A60
  clear A60
  replace H:=oB_ H
  obtain ⟨⟨t509,t510,t513,t516,t519⟩,A70,H⟩:=H
  replace H : ((spec_GetNode.f k t506).bind fun bt521=>(if (t519 != bt521.2.2.2.2) = true then (laws_FnNodes.j0 k t503 true t492 t493 t496 t499) else (if t519 = true then ((impl_NodeOk.f k t509 t510 t513 t516).bind fun t533=>(if t533 = true then ((impl_PutNode.f k t509 t510 t513 t516).bind fun t534=>((laws_sameBytes.f k t534 t506).bind fun t537=>(if t537 = true then ((impl_SizeOf.f k t492 t493 t496 t499).bind fun t538=>((spec_SizeOf.f k t492 t493 t496 t499).bind fun t539=>(laws_FnNodes.j0 k t503 (t538 != t539) t492 t493 t496 t499))) else (laws_FnNodes.j0 k t503 true t492 t493 t496 t499)))) else (laws_FnNodes.j0 k t503 true t492 t493 t496 t499))) else ((impl_SizeOf.f k t492 t493 t496 t499).bind fun t540=>((spec_SizeOf.f k t492 t493 t496 t499).bind fun t541=>(laws_FnNodes.j0 k t503 (t540 != t541) t492 t493 t496 t499)))))) = some r:=H
  have A7:=aM_ A70
  clear A70
  replace H:=oB_ H
  obtain ⟨⟨t521,t522,t525,t528,t531⟩,A80,H⟩:=H
  replace H : (if (t519 != t531) = true then (laws_FnNodes.j0 k t503 true t492 t493 t496 t499) else (if t519 = true then ((impl_NodeOk.f k t509 t510 t513 t516).bind fun t533=>(if t533 = true then ((impl_PutNode.f k t509 t510 t513 t516).bind fun t534=>((laws_sameBytes.f k t534 t506).bind fun t537=>(if t537 = true then ((impl_SizeOf.f k t492 t493 t496 t499).bind fun t538=>((spec_SizeOf.f k t492 t493 t496 t499).bind fun t539=>(laws_FnNodes.j0 k t503 (t538 != t539) t492 t493 t496 t499))) else (laws_FnNodes.j0 k t503 true t492 t493 t496 t499)))) else (laws_FnNodes.j0 k t503 true t492 t493 t496 t499))) else ((impl_SizeOf.f k t492 t493 t496 t499).bind fun t540=>((spec_SizeOf.f k t492 t493 t496 t499).bind fun t541=>(laws_FnNodes.j0 k t503 (t540 != t541) t492 t493 t496 t499))))) = some r:=H
  have A8:=aM_ A80
  clear A80
  have HC9:=aM_ H
  clear H
  go_enter Try.func5,Try.ntmps5
  go_upto_region 8 with (first | ((with_reducible refine gate_callee (f:=25) rfl ?_);refine goesL_ (some 13) rfl rfl Try.func25 (by kernel_rfl) rfl #[.slice A0 l0.length c0] rfl (by (try simp only [mA_,mC_,mN_]);first | done | rfl | (simp only [lD_,lT_];rfl)) ?_;(with_reducible refine (laws_big.calls _ _ l0 false _ ?side1 ?side2 A2.out).mono ?_);(case side1=>repeat (first | exact HR0.out | (with_reducible refine cA_ ?_ _) | (with_reducible refine cN_ ?_ _) | (with_reducible refine cD_ ?_)));(case side2=>exact HC0.out);rintro e w' ⟨rfl,⟨nd,rfl⟩⟩;refine ⟨_,rfl,?_⟩) | ((with_reducible refine gate_callee (f:=26) rfl ?_);refine goesL_ (some 15) rfl rfl Try.func26 (by kernel_rfl) rfl #[.slice A0 l0.length c0] rfl (by (try simp only [mA_,mC_,mN_]);first | done | rfl | (simp only [lD_,lT_];rfl)) ?_;(with_reducible refine (spec_DrawPutNode.calls k _ _ l0 t492 t493 t496 t499 _ ?side1 ?side2 A4.out).mono ?_);(case side1=>repeat (first | exact HR0.out | (with_reducible refine cA_ ?_ _) | (with_reducible refine cN_ ?_ _) | (with_reducible refine cD_ ?_)));(case side2=>exact HC0.out);rintro e w10 ⟨v494,v497,v500,rfl,ho0,ho1,ho2,hb⟩;refine ⟨_,rfl,?_⟩;have n0_:=aM_ (Kd.R_lower ho0 (bS_ (by exact bZ_ HB)));have n1_:=aM_ (Kd.R_lower ho1 (bS_ (by exact bZ_ HB)));have n2_:=aM_ (Kd.R_lower ho2 (bS_ (by exact bZ_ HB)));have n3_:=aM_ (bT_ (by exact bZ_ HB) hb);clear HB;have HO495:=n0_;have HO498:=n1_;have HO501:=n2_;have HB:=n3_;clear n0_ n1_ n2_ n3_ hb ho0 ho1 ho2) | ((with_reducible refine gate_dst (N:=3) rfl ?_);(try (refine gate_guard (by rfl) ?_;dsimp only));refine box_event ?hg (N:=3) ?hd (cs:=#[.bool false,.slice none 0 0,.slice none 0 0,.slice none 0 0]) (t:=29) ?hr ?_;(case hd=>rfl);(case hg=>rfl);(case hr=>first | (go_simp;done) | (go_simp;rfl));intro gb502 hg w11 hbox hb;have n0_:=aM_ (Kd.R_below (by exact rZ_ HO495) hb);have n1_:=aM_ (Kd.R_below (by exact rZ_ HO498) hb);have n2_:=aM_ (Kd.R_below (by exact rZ_ HO501) hb);have n3_:=aM_ (bT_ (by exact bZ_ HB) hb);have n4_:=aM_ (hbox);have n5_:=aM_ ((by rw [hg];exact (bS_ (by exact bZ_ HB)) : w.heap.size ≤ gb502));have n6_:=aM_ ((by rw [hg];exact (bS_ (by exact bZ_ HB)) : w.heap.size ≤ gb502));clear HO495 HO498 HO501 HB;have HO495:=n0_;have HO498:=n1_;have HO501:=n2_;have HB:=n3_;have BK502:=n4_;have GW502:=n5_;have GE502:=n6_;clear n0_ n1_ n2_ n3_ n4_ n5_ n6_ hb hbox hg;have hcz12_0 : w11.cell? ⟨gb502,0,none⟩ = some (.bool false):=(kC_ BK502.out 0).trans rfl;have hcz12_1 : w11.cell? ⟨gb502,1,none⟩ = some (.slice none 0 0):=(kC_ BK502.out 1).trans rfl;have hcz12_2 : w11.cell? ⟨gb502,2,none⟩ = some (.slice none 0 0):=(kC_ BK502.out 2).trans rfl;have hcz12_3 : w11.cell? ⟨gb502,3,none⟩ = some (.slice none 0 0):=(kC_ BK502.out 3).trans rfl;have hfz12_0:=kF_ BK502.out 0;have hfz12_1:=kF_ BK502.out 1;have hfz12_2:=kF_ BK502.out 2;have hfz12_3:=kF_ BK502.out 3;obtain ⟨Ao13,co13,eo13⟩:=Kd.R_slice HO495.out;subst eo13;obtain ⟨Ao14,co14,eo14⟩:=Kd.R_slice HO498.out;subst eo14;obtain ⟨Ao15,co15,eo15⟩:=Kd.R_slice HO501.out;subst eo15) | ((with_reducible refine gate_callee (f:=15) rfl ?_);refine goesL_ (some 17) rfl rfl Try.func15 (by kernel_rfl) rfl #[.agg #[.bool t492,.slice Ao13 t493.length co13,.slice Ao14 t496.length co14,.slice Ao15 t499.length co15]] rfl (by (try simp only [mA_,mC_,mN_]);first | done | rfl | (simp only [lD_,lT_];rfl)) ?_;(with_reducible refine (impl_PutNode.calls k t492 _ _ t493 _ _ t496 _ _ t499 t503 _ ?side1 ?side2 ?side3 ?side4 ?side5 ?side6 A5.out).mono ?_);(case side1=>refine (Kd.R_reads' (e:=9) (base:=w.heap.size) (ok:=fun k_=>some k_ ≠ (.slice Ao14 t496.length co14 : Value).ownBlock) (n:=t493.length) (c:=co13) ?_).2.2;exact (by (with_reducible repeat (first | apply rA_ | apply rN_ | apply rD_));exact (Kd.R_mono (Kd.R_far (p:=⟨gb502,3,none⟩) (Kd.R_far (p:=⟨gb502,2,none⟩) (Kd.R_far (p:=⟨gb502,1,none⟩) (Kd.R_far (p:=⟨gb502,0,none⟩) (Kd.R_types HO495.out BK502.out (by decide)) (fun _ hk=>hk.2) (.bool t492)) (fun _ hk=>hk.2) (.slice Ao13 t493.length co13)) (fun _ hk=>hk.2) (.slice Ao14 t496.length co14)) (fun _ hk=>hk.2) (.slice Ao15 t499.length co15)) (fun _ h_=>h_.1))));(case side2=>exact (Kd.R_reads' HO495.out).2.1);(case side3=>refine (Kd.R_reads' (e:=9) (base:=w.heap.size) (ok:=fun k_=>some k_ ≠ (.slice Ao13 t493.length co13 : Value).ownBlock) (n:=t496.length) (c:=co14) ?_).2.2;exact (by (with_reducible repeat (first | apply rA_ | apply rN_ | apply rD_));exact (Kd.R_mono (Kd.R_far (p:=⟨gb502,3,none⟩) (Kd.R_far (p:=⟨gb502,2,none⟩) (Kd.R_far (p:=⟨gb502,1,none⟩) (Kd.R_far (p:=⟨gb502,0,none⟩) (Kd.R_types HO498.out BK502.out (by decide)) (fun _ hk=>hk.2) (.bool t492)) (fun _ hk=>hk.2) (.slice Ao13 t493.length co13)) (fun _ hk=>hk.2) (.slice Ao14 t496.length co14)) (fun _ hk=>hk.2) (.slice Ao15 t499.length co15)) (fun _ h_=>h_.1))));(case side4=>exact (Kd.R_reads' HO498.out).2.1);(case side5=>refine (Kd.R_reads' (e:=3) (base:=w.heap.size) (ok:=fun k_=>True) (n:=t499.length) (c:=co15) ?_).2.2;exact (by (with_reducible repeat (first | apply rA_ | apply rN_ | apply rD_));exact (Kd.R_mono (Kd.R_far (p:=⟨gb502,3,none⟩) (Kd.R_far (p:=⟨gb502,2,none⟩) (Kd.R_far (p:=⟨gb502,1,none⟩) (Kd.R_far (p:=⟨gb502,0,none⟩) (Kd.R_types HO501.out BK502.out (by decide)) (fun _ hk=>hk.2) (.bool t492)) (fun _ hk=>hk.2) (.slice Ao13 t493.length co13)) (fun _ hk=>hk.2) (.slice Ao14 t496.length co14)) (fun _ hk=>hk.2) (.slice Ao15 t499.length co15)) (fun _ h_=>h_.1))));(case side6=>exact (Kd.R_reads' HO501.out).2.1);rintro e w16 ⟨v504,rfl,ho0,hb⟩;refine ⟨_,rfl,?_⟩;have n0_:=aM_ (Kd.R_below (by (with_reducible repeat (first | apply rA_ | apply rN_ | apply rD_));exact (Kd.R_mono (Kd.R_far (p:=⟨gb502,3,none⟩) (Kd.R_far (p:=⟨gb502,2,none⟩) (Kd.R_far (p:=⟨gb502,1,none⟩) (Kd.R_far (p:=⟨gb502,0,none⟩) (Kd.R_types HO495.out BK502.out (by decide)) (fun _ hk=>hk.2) (.bool t492)) (fun _ hk=>hk.2) (.slice Ao13 t493.length co13)) (fun _ hk=>hk.2) (.slice Ao14 t496.length co14)) (fun _ hk=>hk.2) (.slice Ao15 t499.length co15)) (fun _ h_=>h_.1))) hb);have n1_:=aM_ (Kd.R_below (by (with_reducible repeat (first | apply rA_ | apply rN_ | apply rD_));exact (Kd.R_mono (Kd.R_far (p:=⟨gb502,3,none⟩) (Kd.R_far (p:=⟨gb502,2,none⟩) (Kd.R_far (p:=⟨gb502,1,none⟩) (Kd.R_far (p:=⟨gb502,0,none⟩) (Kd.R_types HO498.out BK502.out (by decide)) (fun _ hk=>hk.2) (.bool t492)) (fun _ hk=>hk.2) (.slice Ao13 t493.length co13)) (fun _ hk=>hk.2) (.slice Ao14 t496.length co14)) (fun _ hk=>hk.2) (.slice Ao15 t499.length co15)) (fun _ h_=>h_.1))) hb);have n2_:=aM_ (Kd.R_below (by (with_reducible repeat (first | apply rA_ | apply rN_ | apply rD_));exact (Kd.R_mono (Kd.R_far (p:=⟨gb502,3,none⟩) (Kd.R_far (p:=⟨gb502,2,none⟩) (Kd.R_far (p:=⟨gb502,1,none⟩) (Kd.R_far (p:=⟨gb502,0,none⟩) (Kd.R_types HO501.out BK502.out (by decide)) (fun _ hk=>hk.2) (.bool t492)) (fun _ hk=>hk.2) (.slice Ao13 t493.length co13)) (fun _ hk=>hk.2) (.slice Ao14 t496.length co14)) (fun _ hk=>hk.2) (.slice Ao15 t499.length co15)) (fun _ h_=>h_.1))) hb);have n3_:=aM_ (Kd.R_lower ho0 (bS_ (by exact bZ_ HB)));have n4_:=aM_ (blk_below (g:=gb502) (o:=.cells #[.bool t492,.slice Ao13 t493.length co13,.slice Ao14 t496.length co14,.slice Ao15 t499.length co15] 29 (0,0)) (by (with_reducible repeat (first | refine kN_ ?_ _ | refine kD_ ?_ | refine kA_ ?_ _));refine kP_ (cs:=#[.bool t492,.slice Ao13 t493.length co13,.slice Ao14 t496.length co14,.slice none 0 0]) ?_ 3 _ rfl;(with_reducible repeat (first | refine kN_ ?_ _ | refine kD_ ?_ | refine kA_ ?_ _));refine kP_ (cs:=#[.bool t492,.slice Ao13 t493.length co13,.slice none 0 0,.slice none 0 0]) ?_ 2 _ rfl;(with_reducible repeat (first | refine kN_ ?_ _ | refine kD_ ?_ | refine kA_ ?_ _));refine kP_ (cs:=#[.bool t492,.slice none 0 0,.slice none 0 0,.slice none 0 0]) ?_ 1 _ rfl;(with_reducible repeat (first | refine kN_ ?_ _ | refine kD_ ?_ | refine kA_ ?_ _));refine kP_ (cs:=#[.bool false,.slice none 0 0,.slice none 0 0,.slice none 0 0]) ?_ 0 _ rfl;exact kZ_ BK502) hb);have n5_:=aM_ (bT_ (by exact bZ_ HB) hb);clear HO495 HO498 HO501 BK502 HB;have HO495:=n0_;have HO498:=n1_;have HO501:=n2_;have HO505:=n3_;have BK502:=n4_;have HB:=n5_;clear n0_ n1_ n2_ n3_ n4_ n5_ hb ho0) | ((with_reducible refine gate_callee (f:=27) rfl ?_);refine goesL_ (some 19) rfl rfl Try.func27 (by kernel_rfl) rfl #[.slice A0 l0.length c0] rfl (by (try simp only [mA_,mC_,mN_]);first | done | rfl | (simp only [lD_,lT_];rfl)) ?_;(with_reducible refine (spec_DrawGetNode.calls k _ _ l0 t506 _ ?side1 ?side2 A6.out).mono ?_);(case side1=>repeat (first | exact (Kd.C_below HR0.out HB.out) | (with_reducible refine cA_ ?_ _) | (with_reducible refine cN_ ?_ _) | (with_reducible refine cD_ ?_)));(case side2=>exact HC0.out);rintro e w17 ⟨v507,rfl,ho0,hb⟩;refine ⟨_,rfl,?_⟩;have n0_:=aM_ (Kd.R_below (by exact rZ_ HO495) hb);have n1_:=aM_ (Kd.R_below (by exact rZ_ HO498) hb);have n2_:=aM_ (Kd.R_below (by exact rZ_ HO501) hb);have n3_:=aM_ (Kd.R_elder' (by exact rZ_ HO505) (Kd.R_base ho0) hb);have n4_:=aM_ (Kd.R_lower (Kd.R_new' ho0 (Kd.R_lt (by exact rZ_ HO505))) (bS_ (by exact bZ_ HB)));have n5_:=aM_ (blk_below (g:=gb502) (o:=.cells #[.bool t492,.slice Ao13 t493.length co13,.slice Ao14 t496.length co14,.slice Ao15 t499.length co15] 29 (0,0)) (by exact kZ_ BK502) hb);have n6_:=aM_ (bT_ (by exact bZ_ HB) hb);clear HO495 HO498 HO501 HO505 BK502 HB;have HO495:=n0_;have HO498:=n1_;have HO501:=n2_;have HO505:=n3_;have HO508:=n4_;have BK502:=n5_;have HB:=n6_;clear n0_ n1_ n2_ n3_ n4_ n5_ n6_ hb ho0;obtain ⟨Ao18,co18,eo18⟩:=Kd.R_slice HO508.out;subst eo18) | ((with_reducible refine gate_callee (f:=23) rfl ?_);refine goesL_ (some 22) rfl rfl Try.func23 (by kernel_rfl) rfl #[.slice Ao18 t506.length co18] rfl (by (try simp only [mA_,mC_,mN_]);first | done | rfl | (simp only [lD_,lT_];rfl)) ?_;(with_reducible refine (impl_GetNode.calls k _ _ t506 t509 t510 t513 t516 t519 _ ?side1 ?side2 A7.out).mono ?_);(case side1=>repeat (first | exact (Kd.R_reads' HO508.out).2.2 | (with_reducible refine cA_ ?_ _) | (with_reducible refine cN_ ?_ _) | (with_reducible refine cD_ ?_)));(case side2=>exact (Kd.R_reads' HO508.out).2.1);rintro e w19 ⟨v511,v514,v517,rfl,ho0,ho1,ho2,hb⟩;refine ⟨_,rfl,?_⟩;have n0_:=aM_ (Kd.R_mono (Kd.R_told (Kd.R_told (Kd.R_old (by exact rZ_ HO495) hb) (Kd.R_base ho0)) (Kd.R_base ho1)) (fun _ h_=>h_.1));have n1_:=aM_ (Kd.R_mono (Kd.R_told (Kd.R_told (Kd.R_old (by exact rZ_ HO498) hb) (Kd.R_base ho0)) (Kd.R_base ho1)) (fun _ h_=>h_.1));have n2_:=aM_ (Kd.R_elder' (by exact rZ_ HO501) (Kd.R_base ho2) hb);have n3_:=aM_ (Kd.R_below (by exact rZ_ HO505) hb);have n4_:=aM_ (Kd.R_below (by exact rZ_ HO508) hb);have n5_:=aM_ (Kd.R_lower (Kd.R_new' (Kd.R_new' ho0 (Kd.R_lt (by exact rZ_ HO495))) (Kd.R_lt (by exact rZ_ HO498))) (bS_ (by exact bZ_ HB)));have n6_:=aM_ (Kd.R_lower (Kd.R_new' (Kd.R_new' ho1 (Kd.R_lt (by exact rZ_ HO495))) (Kd.R_lt (by exact rZ_ HO498))) (bS_ (by exact bZ_ HB)));have n7_:=aM_ (Kd.R_lower (Kd.R_new' ho2 (Kd.R_lt (by exact rZ_ HO501))) (bS_ (by exact bZ_ HB)));have n8_:=aM_ (blk_below (g:=gb502) (o:=.cells #[.bool t492,.slice Ao13 t493.length co13,.slice Ao14 t496.length co14,.slice Ao15 t499.length co15] 29 (0,0)) (by exact kZ_ BK502) hb);have n9_:=aM_ (bT_ (by exact bZ_ HB) hb);clear HO495 HO498 HO501 HO505 HO508 BK502 HB;have HO495:=n0_;have HO498:=n1_;have HO501:=n2_;have HO505:=n3_;have HO508:=n4_;have HO512:=n5_;have HO515:=n6_;have HO518:=n7_;have BK502:=n8_;have HB:=n9_;clear n0_ n1_ n2_ n3_ n4_ n5_ n6_ n7_ n8_ n9_ hb ho0 ho1 ho2) | ((with_reducible refine gate_dst (N:=6) rfl ?_);(try (refine gate_guard (by rfl) ?_;dsimp only));refine box_event ?hg (N:=6) ?hd (cs:=#[.bool false,.slice none 0 0,.slice none 0 0,.slice none 0 0]) (t:=29) ?hr ?_;(case hd=>rfl);(case hg=>rfl);(case hr=>first | (go_simp;done) | (go_simp;rfl));intro gb520 hg w20 hbox hb;have n0_:=aM_ (Kd.R_below (by exact rZ_ HO495) hb);have n1_:=aM_ (Kd.R_below (by exact rZ_ HO498) hb);have n2_:=aM_ (Kd.R_below (by exact rZ_ HO501) hb);have n3_:=aM_ (Kd.R_below (by exact rZ_ HO505) hb);have n4_:=aM_ (Kd.R_below (by exact rZ_ HO508) hb);have n5_:=aM_ (Kd.R_below (by exact rZ_ HO512) hb);have n6_:=aM_ (Kd.R_below (by exact rZ_ HO515) hb);have n7_:=aM_ (Kd.R_below (by exact rZ_ HO518) hb);have n8_:=aM_ (blk_below (g:=gb502) (o:=.cells #[.bool t492,.slice Ao13 t493.length co13,.slice Ao14 t496.length co14,.slice Ao15 t499.length co15] 29 (0,0)) (by exact kZ_ BK502) hb);have n9_:=aM_ (bT_ (by exact bZ_ HB) hb);have n10_:=aM_ (hbox);have n11_:=aM_ ((by rw [hg];exact (bS_ (by exact bZ_ HB)) : w.heap.size ≤ gb520));have n12_:=aM_ ((by rw [hg];exact (bS_ (by exact bZ_ HB)) : w.heap.size ≤ gb520));have n13_:=aM_ ((by rw [hg];exact Nat.ne_of_lt (blk_lt (g:=gb502) (o:=.cells #[.bool t492,.slice Ao13 t493.length co13,.slice Ao14 t496.length co14,.slice Ao15 t499.length co15] 29 (0,0)) (by exact kZ_ BK502)) : gb502 ≠ gb520));have n14_:=aM_ ((by rw [hg];exact Nat.ne_of_gt (blk_lt (g:=gb502) (o:=.cells #[.bool t492,.slice Ao13 t493.length co13,.slice Ao14 t496.length co14,.slice Ao15 t499.length co15] 29 (0,0)) (by exact kZ_ BK502)) : gb520 ≠ gb502));clear HO495 HO498 HO501 HO505 HO508 HO512 HO515 HO518 BK502 HB;have HO495:=n0_;have HO498:=n1_;have HO501:=n2_;have HO505:=n3_;have HO508:=n4_;have HO512:=n5_;have HO515:=n6_;have HO518:=n7_;have BK502:=n8_;have HB:=n9_;have BK520:=n10_;have GW520:=n11_;have GE520:=n12_;have NB502_520:=n13_;have NB520_502:=n14_;clear n0_ n1_ n2_ n3_ n4_ n5_ n6_ n7_ n8_ n9_ n10_ n11_ n12_ n13_ n14_ hb hbox hg;have hnb21:=NB520_502.out;have hnc21:=NB502_520.out;have hcz22_0 : w20.cell? ⟨gb520,0,none⟩ = some (.bool false):=(kC_ BK520.out 0).trans rfl;have hcz22_1 : w20.cell? ⟨gb520,1,none⟩ = some (.slice none 0 0):=(kC_ BK520.out 1).trans rfl;have hcz22_2 : w20.cell? ⟨gb520,2,none⟩ = some (.slice none 0 0):=(kC_ BK520.out 2).trans rfl;have hcz22_3 : w20.cell? ⟨gb520,3,none⟩ = some (.slice none 0 0):=(kC_ BK520.out 3).trans rfl;have hfz22_0:=kF_ BK520.out 0;have hfz22_1:=kF_ BK520.out 1;have hfz22_2:=kF_ BK520.out 2;have hfz22_3:=kF_ BK520.out 3;obtain ⟨Ao23,co23,eo23⟩:=Kd.R_slice HO512.out;subst eo23;obtain ⟨Ao24,co24,eo24⟩:=Kd.R_slice HO515.out;subst eo24;obtain ⟨Ao25,co25,eo25⟩:=Kd.R_slice HO518.out;subst eo25) | ((with_reducible refine gate_callee (f:=21) rfl ?_);refine goesL_ (some 27) rfl rfl Try.func21 (by kernel_rfl) rfl #[.slice Ao18 t506.length co18] rfl (by (try simp only [mA_,mC_,mN_]);first | done | rfl | (simp only [lD_,lT_];rfl)) ?_;(with_reducible refine (spec_GetNode.calls k _ _ t506 t521 t522 t525 t528 t531 _ ?side1 ?side2 A8.out).mono ?_);(case side1=>refine (Kd.R_reads' (e:=5) (base:=w.heap.size) (ok:=fun k_=>(True ∧ some k_ ≠ (v504 : Value).ownBlock)) (n:=t506.length) (c:=co18) ?_).2.2;exact (by (with_reducible repeat (first | apply rA_ | apply rN_ | apply rD_));exact (Kd.R_mono (Kd.R_far (p:=⟨gb520,3,none⟩) (Kd.R_far (p:=⟨gb520,2,none⟩) (Kd.R_far (p:=⟨gb520,1,none⟩) (Kd.R_far (p:=⟨gb520,0,none⟩) (Kd.R_types HO508.out BK520.out (by decide)) (fun _ hk=>hk.2) (.bool t509)) (fun _ hk=>hk.2) (.slice Ao23 t510.length co23)) (fun _ hk=>hk.2) (.slice Ao24 t513.length co24)) (fun _ hk=>hk.2) (.slice Ao25 t516.length co25)) (fun _ h_=>h_.1))));(case side2=>exact (Kd.R_reads' HO508.out).2.1);rintro e w26 ⟨v523,v526,v529,rfl,ho0,ho1,ho2,hb⟩;refine ⟨_,rfl,?_⟩;have n0_:=aM_ (Kd.R_mono (Kd.R_told (Kd.R_told (Kd.R_old (by (with_reducible repeat (first | apply rA_ | apply rN_ | apply rD_));exact (Kd.R_mono (Kd.R_far (p:=⟨gb520,3,none⟩) (Kd.R_far (p:=⟨gb520,2,none⟩) (Kd.R_far (p:=⟨gb520,1,none⟩) (Kd.R_far (p:=⟨gb520,0,none⟩) (Kd.R_types HO495.out BK520.out (by decide)) (fun _ hk=>hk.2) (.bool t509)) (fun _ hk=>hk.2) (.slice Ao23 t510.length co23)) (fun _ hk=>hk.2) (.slice Ao24 t513.length co24)) (fun _ hk=>hk.2) (.slice Ao25 t516.length co25)) (fun _ h_=>h_.1))) hb) (Kd.R_base ho0)) (Kd.R_base ho1)) (fun _ h_=>h_.1));have n1_:=aM_ (Kd.R_mono (Kd.R_told (Kd.R_told (Kd.R_old (by (with_reducible repeat (first | apply rA_ | apply rN_ | apply rD_));exact (Kd.R_mono (Kd.R_far (p:=⟨gb520,3,none⟩) (Kd.R_far (p:=⟨gb520,2,none⟩) (Kd.R_far (p:=⟨gb520,1,none⟩) (Kd.R_far (p:=⟨gb520,0,none⟩) (Kd.R_types HO498.out BK520.out (by decide)) (fun _ hk=>hk.2) (.bool t509)) (fun _ hk=>hk.2) (.slice Ao23 t510.length co23)) (fun _ hk=>hk.2) (.slice Ao24 t513.length co24)) (fun _ hk=>hk.2) (.slice Ao25 t516.length co25)) (fun _ h_=>h_.1))) hb) (Kd.R_base ho0)) (Kd.R_base ho1)) (fun _ h_=>h_.1));have n2_:=aM_ (Kd.R_elder' (by (with_reducible repeat (first | apply rA_ | apply rN_ | apply rD_));exact (Kd.R_mono (Kd.R_far (p:=⟨gb520,3,none⟩) (Kd.R_far (p:=⟨gb520,2,none⟩) (Kd.R_far (p:=⟨gb520,1,none⟩) (Kd.R_far (p:=⟨gb520,0,none⟩) (Kd.R_types HO501.out BK520.out (by decide)) (fun _ hk=>hk.2) (.bool t509)) (fun _ hk=>hk.2) (.slice Ao23 t510.length co23)) (fun _ hk=>hk.2) (.slice Ao24 t513.length co24)) (fun _ hk=>hk.2) (.slice Ao25 t516.length co25)) (fun _ h_=>h_.1))) (Kd.R_base ho2) hb);have n3_:=aM_ (Kd.R_below (by (with_reducible repeat (first | apply rA_ | apply rN_ | apply rD_));exact (Kd.R_mono (Kd.R_far (p:=⟨gb520,3,none⟩) (Kd.R_far (p:=⟨gb520,2,none⟩) (Kd.R_far (p:=⟨gb520,1,none⟩) (Kd.R_far (p:=⟨gb520,0,none⟩) (Kd.R_types HO505.out BK520.out (by decide)) (fun _ hk=>hk.2) (.bool t509)) (fun _ hk=>hk.2) (.slice Ao23 t510.length co23)) (fun _ hk=>hk.2) (.slice Ao24 t513.length co24)) (fun _ hk=>hk.2) (.slice Ao25 t516.length co25)) (fun _ h_=>h_.1))) hb);have n4_:=aM_ (Kd.R_below (by (with_reducible repeat (first | apply rA_ | apply rN_ | apply rD_));exact (Kd.R_mono (Kd.R_far (p:=⟨gb520,3,none⟩) (Kd.R_far (p:=⟨gb520,2,none⟩) (Kd.R_far (p:=⟨gb520,1,none⟩) (Kd.R_far (p:=⟨gb520,0,none⟩) (Kd.R_types HO508.out BK520.out (by decide)) (fun _ hk=>hk.2) (.bool t509)) (fun _ hk=>hk.2) (.slice Ao23 t510.length co23)) (fun _ hk=>hk.2) (.slice Ao24 t513.length co24)) (fun _ hk=>hk.2) (.slice Ao25 t516.length co25)) (fun _ h_=>h_.1))) hb);have n5_:=aM_ (Kd.R_mono (Kd.R_told (Kd.R_told (Kd.R_old (by (with_reducible repeat (first | apply rA_ | apply rN_ | apply rD_));exact (Kd.R_mono (Kd.R_far (p:=⟨gb520,3,none⟩) (Kd.R_far (p:=⟨gb520,2,none⟩) (Kd.R_far (p:=⟨gb520,1,none⟩) (Kd.R_far (p:=⟨gb520,0,none⟩) (Kd.R_types HO512.out BK520.out (by decide)) (fun _ hk=>hk.2) (.bool t509)) (fun _ hk=>hk.2) (.slice Ao23 t510.length co23)) (fun _ hk=>hk.2) (.slice Ao24 t513.length co24)) (fun _ hk=>hk.2) (.slice Ao25 t516.length co25)) (fun _ h_=>h_.1))) hb) (Kd.R_base ho0)) (Kd.R_base ho1)) (fun _ h_=>h_.1));have n6_:=aM_ (Kd.R_mono (Kd.R_told (Kd.R_told (Kd.R_old (by (with_reducible repeat (first | apply rA_ | apply rN_ | apply rD_));exact (Kd.R_mono (Kd.R_far (p:=⟨gb520,3,none⟩) (Kd.R_far (p:=⟨gb520,2,none⟩) (Kd.R_far (p:=⟨gb520,1,none⟩) (Kd.R_far (p:=⟨gb520,0,none⟩) (Kd.R_types HO515.out BK520.out (by decide)) (fun _ hk=>hk.2) (.bool t509)) (fun _ hk=>hk.2) (.slice Ao23 t510.length co23)) (fun _ hk=>hk.2) (.slice Ao24 t513.length co24)) (fun _ hk=>hk.2) (.slice Ao25 t516.length co25)) (fun _ h_=>h_.1))) hb) (Kd.R_base ho0)) (Kd.R_base ho1)) (fun _ h_=>h_.1));have n7_:=aM_ (Kd.R_elder' (by (with_reducible repeat (first | apply rA_ | apply rN_ | apply rD_));exact (Kd.R_mono (Kd.R_far (p:=⟨gb520,3,none⟩) (Kd.R_far (p:=⟨gb520,2,none⟩) (Kd.R_far (p:=⟨gb520,1,none⟩) (Kd.R_far (p:=⟨gb520,0,none⟩) (Kd.R_types HO518.out BK520.out (by decide)) (fun _ hk=>hk.2) (.bool t509)) (fun _ hk=>hk.2) (.slice Ao23 t510.length co23)) (fun _ hk=>hk.2) (.slice Ao24 t513.length co24)) (fun _ hk=>hk.2) (.slice Ao25 t516.length co25)) (fun _ h_=>h_.1))) (Kd.R_base ho2) hb);have n8_:=aM_ (Kd.R_lower (Kd.R_new' (Kd.R_new' (Kd.R_new' (Kd.R_new' ho0 (Kd.R_lt (by (with_reducible repeat (first | apply rA_ | apply rN_ | apply rD_));exact (Kd.R_mono (Kd.R_far (p:=⟨gb520,3,none⟩) (Kd.R_far (p:=⟨gb520,2,none⟩) (Kd.R_far (p:=⟨gb520,1,none⟩) (Kd.R_far (p:=⟨gb520,0,none⟩) (Kd.R_types HO495.out BK520.out (by decide)) (fun _ hk=>hk.2) (.bool t509)) (fun _ hk=>hk.2) (.slice Ao23 t510.length co23)) (fun _ hk=>hk.2) (.slice Ao24 t513.length co24)) (fun _ hk=>hk.2) (.slice Ao25 t516.length co25)) (fun _ h_=>h_.1))))) (Kd.R_lt (by (with_reducible repeat (first | apply rA_ | apply rN_ | apply rD_));exact (Kd.R_mono (Kd.R_far (p:=⟨gb520,3,none⟩) (Kd.R_far (p:=⟨gb520,2,none⟩) (Kd.R_far (p:=⟨gb520,1,none⟩) (Kd.R_far (p:=⟨gb520,0,none⟩) (Kd.R_types HO498.out BK520.out (by decide)) (fun _ hk=>hk.2) (.bool t509)) (fun _ hk=>hk.2) (.slice Ao23 t510.length co23)) (fun _ hk=>hk.2) (.slice Ao24 t513.length co24)) (fun _ hk=>hk.2) (.slice Ao25 t516.length co25)) (fun _ h_=>h_.1))))) (Kd.R_lt (by (with_reducible repeat (first | apply rA_ | apply rN_ | apply rD_));exact (Kd.R_mono (Kd.R_far (p:=⟨gb520,3,none⟩) (Kd.R_far (p:=⟨gb520,2,none⟩) (Kd.R_far (p:=⟨gb520,1,none⟩) (Kd.R_far (p:=⟨gb520,0,none⟩) (Kd.R_types HO512.out BK520.out (by decide)) (fun _ hk=>hk.2) (.bool t509)) (fun _ hk=>hk.2) (.slice Ao23 t510.length co23)) (fun _ hk=>hk.2) (.slice Ao24 t513.length co24)) (fun _ hk=>hk.2) (.slice Ao25 t516.length co25)) (fun _ h_=>h_.1))))) (Kd.R_lt (by (with_reducible repeat (first | apply rA_ | apply rN_ | apply rD_));exact (Kd.R_mono (Kd.R_far (p:=⟨gb520,3,none⟩) (Kd.R_far (p:=⟨gb520,2,none⟩) (Kd.R_far (p:=⟨gb520,1,none⟩) (Kd.R_far (p:=⟨gb520,0,none⟩) (Kd.R_types HO515.out BK520.out (by decide)) (fun _ hk=>hk.2) (.bool t509)) (fun _ hk=>hk.2) (.slice Ao23 t510.length co23)) (fun _ hk=>hk.2) (.slice Ao24 t513.length co24)) (fun _ hk=>hk.2) (.slice Ao25 t516.length co25)) (fun _ h_=>h_.1))))) (bS_ (by exact bZ_ HB)));have n9_:=aM_ (Kd.R_lower (Kd.R_new' (Kd.R_new' (Kd.R_new' (Kd.R_new' ho1 (Kd.R_lt (by (with_reducible repeat (first | apply rA_ | apply rN_ | apply rD_));exact (Kd.R_mono (Kd.R_far (p:=⟨gb520,3,none⟩) (Kd.R_far (p:=⟨gb520,2,none⟩) (Kd.R_far (p:=⟨gb520,1,none⟩) (Kd.R_far (p:=⟨gb520,0,none⟩) (Kd.R_types HO495.out BK520.out (by decide)) (fun _ hk=>hk.2) (.bool t509)) (fun _ hk=>hk.2) (.slice Ao23 t510.length co23)) (fun _ hk=>hk.2) (.slice Ao24 t513.length co24)) (fun _ hk=>hk.2) (.slice Ao25 t516.length co25)) (fun _ h_=>h_.1))))) (Kd.R_lt (by (with_reducible repeat (first | apply rA_ | apply rN_ | apply rD_));exact (Kd.R_mono (Kd.R_far (p:=⟨gb520,3,none⟩) (Kd.R_far (p:=⟨gb520,2,none⟩) (Kd.R_far (p:=⟨gb520,1,none⟩) (Kd.R_far (p:=⟨gb520,0,none⟩) (Kd.R_types HO498.out BK520.out (by decide)) (fun _ hk=>hk.2) (.bool t509)) (fun _ hk=>hk.2) (.slice Ao23 t510.length co23)) (fun _ hk=>hk.2) (.slice Ao24 t513.length co24)) (fun _ hk=>hk.2) (.slice Ao25 t516.length co25)) (fun _ h_=>h_.1))))) (Kd.R_lt (by (with_reducible repeat (first | apply rA_ | apply rN_ | apply rD_));exact (Kd.R_mono (Kd.R_far (p:=⟨gb520,3,none⟩) (Kd.R_far (p:=⟨gb520,2,none⟩) (Kd.R_far (p:=⟨gb520,1,none⟩) (Kd.R_far (p:=⟨gb520,0,none⟩) (Kd.R_types HO512.out BK520.out (by decide)) (fun _ hk=>hk.2) (.bool t509)) (fun _ hk=>hk.2) (.slice Ao23 t510.length co23)) (fun _ hk=>hk.2) (.slice Ao24 t513.length co24)) (fun _ hk=>hk.2) (.slice Ao25 t516.length co25)) (fun _ h_=>h_.1))))) (Kd.R_lt (by (with_reducible repeat (first | apply rA_ | apply rN_ | apply rD_));exact (Kd.R_mono (Kd.R_far (p:=⟨gb520,3,none⟩) (Kd.R_far (p:=⟨gb520,2,none⟩) (Kd.R_far (p:=⟨gb520,1,none⟩) (Kd.R_far (p:=⟨gb520,0,none⟩) (Kd.R_types HO515.out BK520.out (by decide)) (fun _ hk=>hk.2) (.bool t509)) (fun _ hk=>hk.2) (.slice Ao23 t510.length co23)) (fun _ hk=>hk.2) (.slice Ao24 t513.length co24)) (fun _ hk=>hk.2) (.slice Ao25 t516.length co25)) (fun _ h_=>h_.1))))) (bS_ (by exact bZ_ HB)));have n10_:=aM_ (Kd.R_lower (Kd.R_new' (Kd.R_new' ho2 (Kd.R_lt (by (with_reducible repeat (first | apply rA_ | apply rN_ | apply rD_));exact (Kd.R_mono (Kd.R_far (p:=⟨gb520,3,none⟩) (Kd.R_far (p:=⟨gb520,2,none⟩) (Kd.R_far (p:=⟨gb520,1,none⟩) (Kd.R_far (p:=⟨gb520,0,none⟩) (Kd.R_types HO501.out BK520.out (by decide)) (fun _ hk=>hk.2) (.bool t509)) (fun _ hk=>hk.2) (.slice Ao23 t510.length co23)) (fun _ hk=>hk.2) (.slice Ao24 t513.length co24)) (fun _ hk=>hk.2) (.slice Ao25 t516.length co25)) (fun _ h_=>h_.1))))) (Kd.R_lt (by (with_reducible repeat (first | apply rA_ | apply rN_ | apply rD_));exact (Kd.R_mono (Kd.R_far (p:=⟨gb520,3,none⟩) (Kd.R_far (p:=⟨gb520,2,none⟩) (Kd.R_far (p:=⟨gb520,1,none⟩) (Kd.R_far (p:=⟨gb520,0,none⟩) (Kd.R_types HO518.out BK520.out (by decide)) (fun _ hk=>hk.2) (.bool t509)) (fun _ hk=>hk.2) (.slice Ao23 t510.length co23)) (fun _ hk=>hk.2) (.slice Ao24 t513.length co24)) (fun _ hk=>hk.2) (.slice Ao25 t516.length co25)) (fun _ h_=>h_.1))))) (bS_ (by exact bZ_ HB)));have n11_:=aM_ (blk_below (g:=gb502) (o:=.cells #[.bool t492,.slice Ao13 t493.length co13,.slice Ao14 t496.length co14,.slice Ao15 t499.length co15] 29 (0,0)) (by exact kW_ BK502) hb);have n12_:=aM_ (blk_below (g:=gb520) (o:=.cells #[.bool t509,.slice Ao23 t510.length co23,.slice Ao24 t513.length co24,.slice Ao25 t516.length co25] 29 (0,0)) (by (with_reducible repeat (first | refine kN_ ?_ _ | refine kD_ ?_ | refine kA_ ?_ _));refine kP_ (cs:=#[.bool t509,.slice Ao23 t510.length co23,.slice Ao24 t513.length co24,.slice none 0 0]) ?_ 3 _ rfl;(with_reducible repeat (first | refine kN_ ?_ _ | refine kD_ ?_ | refine kA_ ?_ _));refine kP_ (cs:=#[.bool t509,.slice Ao23 t510.length co23,.slice none 0 0,.slice none 0 0]) ?_ 2 _ rfl;(with_reducible repeat (first | refine kN_ ?_ _ | refine kD_ ?_ | refine kA_ ?_ _));refine kP_ (cs:=#[.bool t509,.slice none 0 0,.slice none 0 0,.slice none 0 0]) ?_ 1 _ rfl;(with_reducible repeat (first | refine kN_ ?_ _ | refine kD_ ?_ | refine kA_ ?_ _));refine kP_ (cs:=#[.bool false,.slice none 0 0,.slice none 0 0,.slice none 0 0]) ?_ 0 _ rfl;exact kZ_ BK520) hb);have n13_:=aM_ (bT_ (by exact bZ_ HB) hb);clear HO495 HO498 HO501 HO505 HO508 HO512 HO515 HO518 BK502 BK520 HB;have HO495:=n0_;have HO498:=n1_;have HO501:=n2_;have HO505:=n3_;have HO508:=n4_;have HO512:=n5_;have HO515:=n6_;have HO518:=n7_;have HO524:=n8_;have HO527:=n9_;have HO530:=n10_;have BK502:=n11_;have BK520:=n12_;have HB:=n13_;clear n0_ n1_ n2_ n3_ n4_ n5_ n6_ n7_ n8_ n9_ n10_ n11_ n12_ n13_ hb ho0 ho1 ho2) | ((with_reducible refine gate_dst (N:=8) rfl ?_);(try (refine gate_guard (by rfl) ?_;dsimp only));refine box_event ?hg (N:=8) ?hd (cs:=#[.bool false,.slice none 0 0,.slice none 0 0,.slice none 0 0]) (t:=29) ?hr ?_;(case hd=>rfl);(case hg=>rfl);(case hr=>first | (go_simp;done) | (go_simp;rfl));intro gb532 hg w27 hbox hb;have n0_:=aM_ (Kd.R_below (by exact rZ_ HO495) hb);have n1_:=aM_ (Kd.R_below (by exact rZ_ HO498) hb);have n2_:=aM_ (Kd.R_below (by exact rZ_ HO501) hb);have n3_:=aM_ (Kd.R_below (by exact rZ_ HO505) hb);have n4_:=aM_ (Kd.R_below (by exact rZ_ HO508) hb);have n5_:=aM_ (Kd.R_below (by exact rZ_ HO512) hb);have n6_:=aM_ (Kd.R_below (by exact rZ_ HO515) hb);have n7_:=aM_ (Kd.R_below (by exact rZ_ HO518) hb);have n8_:=aM_ (Kd.R_below (by exact rZ_ HO524) hb);have n9_:=aM_ (Kd.R_below (by exact rZ_ HO527) hb);have n10_:=aM_ (Kd.R_below (by exact rZ_ HO530) hb);have n11_:=aM_ (blk_below (g:=gb502) (o:=.cells #[.bool t492,.slice Ao13 t493.length co13,.slice Ao14 t496.length co14,.slice Ao15 t499.length co15] 29 (0,0)) (by exact kZ_ BK502) hb);have n12_:=aM_ (blk_below (g:=gb520) (o:=.cells #[.bool t509,.slice Ao23 t510.length co23,.slice Ao24 t513.length co24,.slice Ao25 t516.length co25] 29 (0,0)) (by exact kZ_ BK520) hb);have n13_:=aM_ (bT_ (by exact bZ_ HB) hb);have n14_:=aM_ (hbox);have n15_:=aM_ ((by rw [hg];exact (bS_ (by exact bZ_ HB)) : w.heap.size ≤ gb532));have n16_:=aM_ ((by rw [hg];exact (bS_ (by exact bZ_ HB)) : w.heap.size ≤ gb532));have n17_:=aM_ ((by rw [hg];exact Nat.ne_of_lt (blk_lt (g:=gb502) (o:=.cells #[.bool t492,.slice Ao13 t493.length co13,.slice Ao14 t496.length co14,.slice Ao15 t499.length co15] 29 (0,0)) (by exact kZ_ BK502)) : gb502 ≠ gb532));have n18_:=aM_ ((by rw [hg];exact Nat.ne_of_gt (blk_lt (g:=gb502) (o:=.cells #[.bool t492,.slice Ao13 t493.length co13,.slice Ao14 t496.length co14,.slice Ao15 t499.length co15] 29 (0,0)) (by exact kZ_ BK502)) : gb532 ≠ gb502));have n19_:=aM_ ((by rw [hg];exact Nat.ne_of_lt (blk_lt (g:=gb520) (o:=.cells #[.bool t509,.slice Ao23 t510.length co23,.slice Ao24 t513.length co24,.slice Ao25 t516.length co25] 29 (0,0)) (by exact kZ_ BK520)) : gb520 ≠ gb532));have n20_:=aM_ ((by rw [hg];exact Nat.ne_of_gt (blk_lt (g:=gb520) (o:=.cells #[.bool t509,.slice Ao23 t510.length co23,.slice Ao24 t513.length co24,.slice Ao25 t516.length co25] 29 (0,0)) (by exact kZ_ BK520)) : gb532 ≠ gb520));clear HO495 HO498 HO501 HO505 HO508 HO512 HO515 HO518 HO524 HO527 HO530 BK502 BK520 HB;have HO495:=n0_;have HO498:=n1_;have HO501:=n2_;have HO505:=n3_;have HO508:=n4_;have HO512:=n5_;have HO515:=n6_;have HO518:=n7_;have HO524:=n8_;have HO527:=n9_;have HO530:=n10_;have BK502:=n11_;have BK520:=n12_;have HB:=n13_;have BK532:=n14_;have GW532:=n15_;have GE532:=n16_;have NB502_532:=n17_;have NB532_502:=n18_;have NB520_532:=n19_;have NB532_520:=n20_;clear n0_ n1_ n2_ n3_ n4_ n5_ n6_ n7_ n8_ n9_ n10_ n11_ n12_ n13_ n14_ n15_ n16_ n17_ n18_ n19_ n20_ hb hbox hg;have hnb28:=NB532_502.out;have hnc28:=NB502_532.out;have hnb29:=NB532_520.out;have hnc29:=NB520_532.out;have hcz30_0 : w27.cell? ⟨gb532,0,none⟩ = some (.bool false):=(kC_ BK532.out 0).trans rfl;have hcz30_1 : w27.cell? ⟨gb532,1,none⟩ = some (.slice none 0 0):=(kC_ BK532.out 1).trans rfl;have hcz30_2 : w27.cell? ⟨gb532,2,none⟩ = some (.slice none 0 0):=(kC_ BK532.out 2).trans rfl;have hcz30_3 : w27.cell? ⟨gb532,3,none⟩ = some (.slice none 0 0):=(kC_ BK532.out 3).trans rfl;have hfz30_0:=kF_ BK532.out 0;have hfz30_1:=kF_ BK532.out 1;have hfz30_2:=kF_ BK532.out 2;have hfz30_3:=kF_ BK532.out 3;obtain ⟨Ao31,co31,eo31⟩:=Kd.R_slice HO524.out;subst eo31;obtain ⟨Ao32,co32,eo32⟩:=Kd.R_slice HO527.out;subst eo32;obtain ⟨Ao33,co33,eo33⟩:=Kd.R_slice HO530.out;subst eo33))
  (try simp only [Act.put,sI_,sZ_,sS_])
  go_cut [54] (fun v54 wc=>∃ (kq : Nat) (x54_8 : Bool),v54 = .bool x54_8 ∧ Aside0 (laws_FnNodes.j0 kq t503 x54_8 t492 t493 t496 t499 = some r) ∧ Aside0 (kq ≤ k) ∧ Aside0 (Kd.R (Kd.int .u8) 5 wc w.heap.size (fun _=>True) v504 t503) ∧ Aside0 (Kd.R Kd.string 9 wc w.heap.size (fun k_=>some k_ ≠ ((.slice Ao14 t496.length co14) : Value).ownBlock ∧ some k_ ≠ ((.slice Ao23 t510.length co23) : Value).ownBlock ∧ some k_ ≠ ((.slice Ao24 t513.length co24) : Value).ownBlock ∧ some k_ ≠ ((.slice Ao31 t522.length co31) : Value).ownBlock ∧ some k_ ≠ ((.slice Ao32 t525.length co32) : Value).ownBlock) (.slice Ao13 t493.length co13) t493) ∧ Aside0 (Kd.R Kd.string 9 wc w.heap.size (fun k_=>some k_ ≠ ((.slice Ao13 t493.length co13) : Value).ownBlock ∧ some k_ ≠ ((.slice Ao23 t510.length co23) : Value).ownBlock ∧ some k_ ≠ ((.slice Ao24 t513.length co24) : Value).ownBlock ∧ some k_ ≠ ((.slice Ao31 t522.length co31) : Value).ownBlock ∧ some k_ ≠ ((.slice Ao32 t525.length co32) : Value).ownBlock) (.slice Ao14 t496.length co14) t496) ∧ Aside0 (Kd.R (Kd.int .i64) 3 wc w.heap.size (fun k_=>some k_ ≠ ((.slice Ao25 t516.length co25) : Value).ownBlock ∧ some k_ ≠ ((.slice Ao33 t528.length co33) : Value).ownBlock) (.slice Ao15 t499.length co15) t499) ∧ Aside0 (Kd.R Kd.string 9 wc w.heap.size (fun k_=>some k_ ≠ ((.slice Ao13 t493.length co13) : Value).ownBlock ∧ some k_ ≠ ((.slice Ao14 t496.length co14) : Value).ownBlock ∧ some k_ ≠ ((.slice Ao24 t513.length co24) : Value).ownBlock ∧ some k_ ≠ ((.slice Ao31 t522.length co31) : Value).ownBlock ∧ some k_ ≠ ((.slice Ao32 t525.length co32) : Value).ownBlock) (.slice Ao23 t510.length co23) t510) ∧ Aside0 (Kd.R Kd.string 9 wc w.heap.size (fun k_=>some k_ ≠ ((.slice Ao13 t493.length co13) : Value).ownBlock ∧ some k_ ≠ ((.slice Ao14 t496.length co14) : Value).ownBlock ∧ some k_ ≠ ((.slice Ao23 t510.length co23) : Value).ownBlock ∧ some k_ ≠ ((.slice Ao31 t522.length co31) : Value).ownBlock ∧ some k_ ≠ ((.slice Ao32 t525.length co32) : Value).ownBlock) (.slice Ao24 t513.length co24) t513) ∧ Aside0 (Kd.R (Kd.int .i64) 3 wc w.heap.size (fun k_=>some k_ ≠ ((.slice Ao15 t499.length co15) : Value).ownBlock ∧ some k_ ≠ ((.slice Ao33 t528.length co33) : Value).ownBlock) (.slice Ao25 t516.length co25) t516) ∧ Aside0 (Kd.R Kd.string 9 wc w.heap.size (fun k_=>some k_ ≠ ((.slice Ao13 t493.length co13) : Value).ownBlock ∧ some k_ ≠ ((.slice Ao14 t496.length co14) : Value).ownBlock ∧ some k_ ≠ ((.slice Ao23 t510.length co23) : Value).ownBlock ∧ some k_ ≠ ((.slice Ao24 t513.length co24) : Value).ownBlock ∧ some k_ ≠ ((.slice Ao32 t525.length co32) : Value).ownBlock) (.slice Ao31 t522.length co31) t522) ∧ Aside0 (Kd.R Kd.string 9 wc w.heap.size (fun k_=>some k_ ≠ ((.slice Ao13 t493.length co13) : Value).ownBlock ∧ some k_ ≠ ((.slice Ao14 t496.length co14) : Value).ownBlock ∧ some k_ ≠ ((.slice Ao23 t510.length co23) : Value).ownBlock ∧ some k_ ≠ ((.slice Ao24 t513.length co24) : Value).ownBlock ∧ some k_ ≠ ((.slice Ao31 t522.length co31) : Value).ownBlock) (.slice Ao32 t525.length co32) t525) ∧ Aside0 (Kd.R (Kd.int .i64) 3 wc w.heap.size (fun k_=>some k_ ≠ ((.slice Ao15 t499.length co15) : Value).ownBlock ∧ some k_ ≠ ((.slice Ao25 t516.length co25) : Value).ownBlock) (.slice Ao33 t528.length co33) t528) ∧ Aside0 (wc.heap[gb502]? = some (.cells #[.bool t492,(.slice Ao13 t493.length co13),(.slice Ao14 t496.length co14),(.slice Ao15 t499.length co15)] 29 (0,0))) ∧ Aside0 (wc.heap[gb520]? = some (.cells #[.bool t509,(.slice Ao23 t510.length co23),(.slice Ao24 t513.length co24),(.slice Ao25 t516.length co25)] 29 (0,0))) ∧ Aside0 (wc.heap[gb532]? = some (.cells #[.bool t521,(.slice Ao31 t522.length co31),(.slice Ao32 t525.length co32),(.slice Ao33 t528.length co33)] 29 (0,0))) ∧ Aside0 (Below w.heap.size w wc))
  case first =>
   have H:=HC9.out
   clear HC9
   by_cases c34 : (t519 != t531) = true
   ·rw [if_pos c34] at H
    have c34b0 : (t519 != t531) = true:=c34
    (try (have c34b1 : decide (t519 = t531) = false:=by simpa using c34))
    (try (have c34b2 : (t519 == t531) = false:=by simpa using c34))
    (try (have c34b3 : ¬ (t519 = t531):=by simpa using c34))
    clear c34
    (first | rw [c34b0] | (simp only [i64_w,i32_w];rw [c34b0]) | skip)
    have H':=aM_ H
    clear H
    try go_wp2
    have n0_ : Aside0 (Kd.R Kd.string 9 ((((w27.setCell ⟨gb532,0,none⟩ (.bool t521)).setCell ⟨gb532,1,none⟩ (.slice Ao31 t522.length co31)).setCell ⟨gb532,2,none⟩ (.slice Ao32 t525.length co32)).setCell ⟨gb532,3,none⟩ (.slice Ao33 t528.length co33)) w.heap.size (fun k_=>some k_ ≠ (.slice Ao14 t496.length co14 : Value).ownBlock ∧ some k_ ≠ (.slice Ao23 t510.length co23 : Value).ownBlock ∧ some k_ ≠ (.slice Ao24 t513.length co24 : Value).ownBlock ∧ some k_ ≠ (.slice Ao31 t522.length co31 : Value).ownBlock ∧ some k_ ≠ (.slice Ao32 t525.length co32 : Value).ownBlock) (.slice Ao13 t493.length co13) t493):=⟨by (with_reducible repeat (first | apply rA_ | apply rN_ | apply rD_));exact Kd.R_mono (Kd.R_far (p:=⟨gb532,3,none⟩) (Kd.R_far (p:=⟨gb532,2,none⟩) (Kd.R_far (p:=⟨gb532,1,none⟩) (Kd.R_far (p:=⟨gb532,0,none⟩) (Kd.R_types HO495.out BK532.out (by decide)) (fun _ hk=>hk.2) (.bool t521)) (fun _ hk=>hk.2) (.slice Ao31 t522.length co31)) (fun _ hk=>hk.2) (.slice Ao32 t525.length co32)) (fun _ hk=>hk.2) (.slice Ao33 t528.length co33)) (fun _ hk=>⟨hk.1.1.1.1.1,⟨hk.1.1.1.1.2,⟨hk.1.1.1.2,⟨hk.1.1.2,hk.1.2⟩⟩⟩⟩)⟩
    have n1_ : Aside0 (Kd.R Kd.string 9 ((((w27.setCell ⟨gb532,0,none⟩ (.bool t521)).setCell ⟨gb532,1,none⟩ (.slice Ao31 t522.length co31)).setCell ⟨gb532,2,none⟩ (.slice Ao32 t525.length co32)).setCell ⟨gb532,3,none⟩ (.slice Ao33 t528.length co33)) w.heap.size (fun k_=>some k_ ≠ (.slice Ao13 t493.length co13 : Value).ownBlock ∧ some k_ ≠ (.slice Ao23 t510.length co23 : Value).ownBlock ∧ some k_ ≠ (.slice Ao24 t513.length co24 : Value).ownBlock ∧ some k_ ≠ (.slice Ao31 t522.length co31 : Value).ownBlock ∧ some k_ ≠ (.slice Ao32 t525.length co32 : Value).ownBlock) (.slice Ao14 t496.length co14) t496):=⟨by (with_reducible repeat (first | apply rA_ | apply rN_ | apply rD_));exact Kd.R_mono (Kd.R_far (p:=⟨gb532,3,none⟩) (Kd.R_far (p:=⟨gb532,2,none⟩) (Kd.R_far (p:=⟨gb532,1,none⟩) (Kd.R_far (p:=⟨gb532,0,none⟩) (Kd.R_types HO498.out BK532.out (by decide)) (fun _ hk=>hk.2) (.bool t521)) (fun _ hk=>hk.2) (.slice Ao31 t522.length co31)) (fun _ hk=>hk.2) (.slice Ao32 t525.length co32)) (fun _ hk=>hk.2) (.slice Ao33 t528.length co33)) (fun _ hk=>⟨hk.1.1.1.1.1,⟨hk.1.1.1.1.2,⟨hk.1.1.1.2,⟨hk.1.1.2,hk.1.2⟩⟩⟩⟩)⟩
    have n2_ : Aside0 (Kd.R (Kd.int .i64) 3 ((((w27.setCell ⟨gb532,0,none⟩ (.bool t521)).setCell ⟨gb532,1,none⟩ (.slice Ao31 t522.length co31)).setCell ⟨gb532,2,none⟩ (.slice Ao32 t525.length co32)).setCell ⟨gb532,3,none⟩ (.slice Ao33 t528.length co33)) w.heap.size (fun k_=>some k_ ≠ (.slice Ao25 t516.length co25 : Value).ownBlock ∧ some k_ ≠ (.slice Ao33 t528.length co33 : Value).ownBlock) (.slice Ao15 t499.length co15) t499):=⟨by (with_reducible repeat (first | apply rA_ | apply rN_ | apply rD_));exact Kd.R_mono (Kd.R_far (p:=⟨gb532,3,none⟩) (Kd.R_far (p:=⟨gb532,2,none⟩) (Kd.R_far (p:=⟨gb532,1,none⟩) (Kd.R_far (p:=⟨gb532,0,none⟩) (Kd.R_types HO501.out BK532.out (by decide)) (fun _ hk=>hk.2) (.bool t521)) (fun _ hk=>hk.2) (.slice Ao31 t522.length co31)) (fun _ hk=>hk.2) (.slice Ao32 t525.length co32)) (fun _ hk=>hk.2) (.slice Ao33 t528.length co33)) (fun _ hk=>⟨hk.1.1.2,hk.1.2⟩)⟩
    have n3_ : Aside0 (Kd.R (Kd.int .u8) 5 ((((w27.setCell ⟨gb532,0,none⟩ (.bool t521)).setCell ⟨gb532,1,none⟩ (.slice Ao31 t522.length co31)).setCell ⟨gb532,2,none⟩ (.slice Ao32 t525.length co32)).setCell ⟨gb532,3,none⟩ (.slice Ao33 t528.length co33)) w.heap.size (fun k_=>some k_ ≠ (.slice Ao18 t506.length co18 : Value).ownBlock) v504 t503):=⟨by (with_reducible repeat (first | apply rA_ | apply rN_ | apply rD_));exact Kd.R_mono (Kd.R_far (p:=⟨gb532,3,none⟩) (Kd.R_far (p:=⟨gb532,2,none⟩) (Kd.R_far (p:=⟨gb532,1,none⟩) (Kd.R_far (p:=⟨gb532,0,none⟩) (Kd.R_types HO505.out BK532.out (by decide)) (fun _ hk=>hk.2) (.bool t521)) (fun _ hk=>hk.2) (.slice Ao31 t522.length co31)) (fun _ hk=>hk.2) (.slice Ao32 t525.length co32)) (fun _ hk=>hk.2) (.slice Ao33 t528.length co33)) (fun _ hk=>hk.1.2)⟩
    have n4_ : Aside0 (Kd.R (Kd.int .u8) 5 ((((w27.setCell ⟨gb532,0,none⟩ (.bool t521)).setCell ⟨gb532,1,none⟩ (.slice Ao31 t522.length co31)).setCell ⟨gb532,2,none⟩ (.slice Ao32 t525.length co32)).setCell ⟨gb532,3,none⟩ (.slice Ao33 t528.length co33)) w.heap.size (fun k_=>some k_ ≠ (v504 : Value).ownBlock) (.slice Ao18 t506.length co18) t506):=⟨by (with_reducible repeat (first | apply rA_ | apply rN_ | apply rD_));exact Kd.R_mono (Kd.R_far (p:=⟨gb532,3,none⟩) (Kd.R_far (p:=⟨gb532,2,none⟩) (Kd.R_far (p:=⟨gb532,1,none⟩) (Kd.R_far (p:=⟨gb532,0,none⟩) (Kd.R_types HO508.out BK532.out (by decide)) (fun _ hk=>hk.2) (.bool t521)) (fun _ hk=>hk.2) (.slice Ao31 t522.length co31)) (fun _ hk=>hk.2) (.slice Ao32 t525.length co32)) (fun _ hk=>hk.2) (.slice Ao33 t528.length co33)) (fun _ hk=>hk.1.2)⟩
    have n5_ : Aside0 (Kd.R Kd.string 9 ((((w27.setCell ⟨gb532,0,none⟩ (.bool t521)).setCell ⟨gb532,1,none⟩ (.slice Ao31 t522.length co31)).setCell ⟨gb532,2,none⟩ (.slice Ao32 t525.length co32)).setCell ⟨gb532,3,none⟩ (.slice Ao33 t528.length co33)) w.heap.size (fun k_=>some k_ ≠ (.slice Ao13 t493.length co13 : Value).ownBlock ∧ some k_ ≠ (.slice Ao14 t496.length co14 : Value).ownBlock ∧ some k_ ≠ (.slice Ao24 t513.length co24 : Value).ownBlock ∧ some k_ ≠ (.slice Ao31 t522.length co31 : Value).ownBlock ∧ some k_ ≠ (.slice Ao32 t525.length co32 : Value).ownBlock) (.slice Ao23 t510.length co23) t510):=⟨by (with_reducible repeat (first | apply rA_ | apply rN_ | apply rD_));exact Kd.R_mono (Kd.R_far (p:=⟨gb532,3,none⟩) (Kd.R_far (p:=⟨gb532,2,none⟩) (Kd.R_far (p:=⟨gb532,1,none⟩) (Kd.R_far (p:=⟨gb532,0,none⟩) (Kd.R_types HO512.out BK532.out (by decide)) (fun _ hk=>hk.2) (.bool t521)) (fun _ hk=>hk.2) (.slice Ao31 t522.length co31)) (fun _ hk=>hk.2) (.slice Ao32 t525.length co32)) (fun _ hk=>hk.2) (.slice Ao33 t528.length co33)) (fun _ hk=>⟨hk.1.1.1.1.2,⟨hk.1.1.1.2,⟨hk.1.1.1.1.1,⟨hk.1.1.2,hk.1.2⟩⟩⟩⟩)⟩
    have n6_ : Aside0 (Kd.R Kd.string 9 ((((w27.setCell ⟨gb532,0,none⟩ (.bool t521)).setCell ⟨gb532,1,none⟩ (.slice Ao31 t522.length co31)).setCell ⟨gb532,2,none⟩ (.slice Ao32 t525.length co32)).setCell ⟨gb532,3,none⟩ (.slice Ao33 t528.length co33)) w.heap.size (fun k_=>some k_ ≠ (.slice Ao13 t493.length co13 : Value).ownBlock ∧ some k_ ≠ (.slice Ao14 t496.length co14 : Value).ownBlock ∧ some k_ ≠ (.slice Ao23 t510.length co23 : Value).ownBlock ∧ some k_ ≠ (.slice Ao31 t522.length co31 : Value).ownBlock ∧ some k_ ≠ (.slice Ao32 t525.length co32 : Value).ownBlock) (.slice Ao24 t513.length co24) t513):=⟨by (with_reducible repeat (first | apply rA_ | apply rN_ | apply rD_));exact Kd.R_mono (Kd.R_far (p:=⟨gb532,3,none⟩) (Kd.R_far (p:=⟨gb532,2,none⟩) (Kd.R_far (p:=⟨gb532,1,none⟩) (Kd.R_far (p:=⟨gb532,0,none⟩) (Kd.R_types HO515.out BK532.out (by decide)) (fun _ hk=>hk.2) (.bool t521)) (fun _ hk=>hk.2) (.slice Ao31 t522.length co31)) (fun _ hk=>hk.2) (.slice Ao32 t525.length co32)) (fun _ hk=>hk.2) (.slice Ao33 t528.length co33)) (fun _ hk=>⟨hk.1.1.1.1.2,⟨hk.1.1.1.2,⟨hk.1.1.1.1.1,⟨hk.1.1.2,hk.1.2⟩⟩⟩⟩)⟩
    have n7_ : Aside0 (Kd.R (Kd.int .i64) 3 ((((w27.setCell ⟨gb532,0,none⟩ (.bool t521)).setCell ⟨gb532,1,none⟩ (.slice Ao31 t522.length co31)).setCell ⟨gb532,2,none⟩ (.slice Ao32 t525.length co32)).setCell ⟨gb532,3,none⟩ (.slice Ao33 t528.length co33)) w.heap.size (fun k_=>some k_ ≠ (.slice Ao15 t499.length co15 : Value).ownBlock ∧ some k_ ≠ (.slice Ao33 t528.length co33 : Value).ownBlock) (.slice Ao25 t516.length co25) t516):=⟨by (with_reducible repeat (first | apply rA_ | apply rN_ | apply rD_));exact Kd.R_mono (Kd.R_far (p:=⟨gb532,3,none⟩) (Kd.R_far (p:=⟨gb532,2,none⟩) (Kd.R_far (p:=⟨gb532,1,none⟩) (Kd.R_far (p:=⟨gb532,0,none⟩) (Kd.R_types HO518.out BK532.out (by decide)) (fun _ hk=>hk.2) (.bool t521)) (fun _ hk=>hk.2) (.slice Ao31 t522.length co31)) (fun _ hk=>hk.2) (.slice Ao32 t525.length co32)) (fun _ hk=>hk.2) (.slice Ao33 t528.length co33)) (fun _ hk=>⟨hk.1.1.2,hk.1.2⟩)⟩
    have n8_ : Aside0 (Kd.R Kd.string 9 ((((w27.setCell ⟨gb532,0,none⟩ (.bool t521)).setCell ⟨gb532,1,none⟩ (.slice Ao31 t522.length co31)).setCell ⟨gb532,2,none⟩ (.slice Ao32 t525.length co32)).setCell ⟨gb532,3,none⟩ (.slice Ao33 t528.length co33)) w.heap.size (fun k_=>some k_ ≠ (.slice Ao13 t493.length co13 : Value).ownBlock ∧ some k_ ≠ (.slice Ao14 t496.length co14 : Value).ownBlock ∧ some k_ ≠ (.slice Ao23 t510.length co23 : Value).ownBlock ∧ some k_ ≠ (.slice Ao24 t513.length co24 : Value).ownBlock ∧ some k_ ≠ (.slice Ao32 t525.length co32 : Value).ownBlock) (.slice Ao31 t522.length co31) t522):=⟨by (with_reducible repeat (first | apply rA_ | apply rN_ | apply rD_));exact Kd.R_mono (Kd.R_far (p:=⟨gb532,3,none⟩) (Kd.R_far (p:=⟨gb532,2,none⟩) (Kd.R_far (p:=⟨gb532,1,none⟩) (Kd.R_far (p:=⟨gb532,0,none⟩) (Kd.R_types HO524.out BK532.out (by decide)) (fun _ hk=>hk.2) (.bool t521)) (fun _ hk=>hk.2) (.slice Ao31 t522.length co31)) (fun _ hk=>hk.2) (.slice Ao32 t525.length co32)) (fun _ hk=>hk.2) (.slice Ao33 t528.length co33)) (fun _ hk=>⟨hk.1.1.1.1.2,⟨hk.1.1.1.2,⟨hk.1.1.2,⟨hk.1.2,hk.1.1.1.1.1⟩⟩⟩⟩)⟩
    have n9_ : Aside0 (Kd.R Kd.string 9 ((((w27.setCell ⟨gb532,0,none⟩ (.bool t521)).setCell ⟨gb532,1,none⟩ (.slice Ao31 t522.length co31)).setCell ⟨gb532,2,none⟩ (.slice Ao32 t525.length co32)).setCell ⟨gb532,3,none⟩ (.slice Ao33 t528.length co33)) w.heap.size (fun k_=>some k_ ≠ (.slice Ao13 t493.length co13 : Value).ownBlock ∧ some k_ ≠ (.slice Ao14 t496.length co14 : Value).ownBlock ∧ some k_ ≠ (.slice Ao23 t510.length co23 : Value).ownBlock ∧ some k_ ≠ (.slice Ao24 t513.length co24 : Value).ownBlock ∧ some k_ ≠ (.slice Ao31 t522.length co31 : Value).ownBlock) (.slice Ao32 t525.length co32) t525):=⟨by (with_reducible repeat (first | apply rA_ | apply rN_ | apply rD_));exact Kd.R_mono (Kd.R_far (p:=⟨gb532,3,none⟩) (Kd.R_far (p:=⟨gb532,2,none⟩) (Kd.R_far (p:=⟨gb532,1,none⟩) (Kd.R_far (p:=⟨gb532,0,none⟩) (Kd.R_types HO527.out BK532.out (by decide)) (fun _ hk=>hk.2) (.bool t521)) (fun _ hk=>hk.2) (.slice Ao31 t522.length co31)) (fun _ hk=>hk.2) (.slice Ao32 t525.length co32)) (fun _ hk=>hk.2) (.slice Ao33 t528.length co33)) (fun _ hk=>⟨hk.1.1.1.1.2,⟨hk.1.1.1.2,⟨hk.1.1.2,⟨hk.1.2,hk.1.1.1.1.1⟩⟩⟩⟩)⟩
    have n10_ : Aside0 (Kd.R (Kd.int .i64) 3 ((((w27.setCell ⟨gb532,0,none⟩ (.bool t521)).setCell ⟨gb532,1,none⟩ (.slice Ao31 t522.length co31)).setCell ⟨gb532,2,none⟩ (.slice Ao32 t525.length co32)).setCell ⟨gb532,3,none⟩ (.slice Ao33 t528.length co33)) w.heap.size (fun k_=>some k_ ≠ (.slice Ao15 t499.length co15 : Value).ownBlock ∧ some k_ ≠ (.slice Ao25 t516.length co25 : Value).ownBlock) (.slice Ao33 t528.length co33) t528):=⟨by (with_reducible repeat (first | apply rA_ | apply rN_ | apply rD_));exact Kd.R_mono (Kd.R_far (p:=⟨gb532,3,none⟩) (Kd.R_far (p:=⟨gb532,2,none⟩) (Kd.R_far (p:=⟨gb532,1,none⟩) (Kd.R_far (p:=⟨gb532,0,none⟩) (Kd.R_types HO530.out BK532.out (by decide)) (fun _ hk=>hk.2) (.bool t521)) (fun _ hk=>hk.2) (.slice Ao31 t522.length co31)) (fun _ hk=>hk.2) (.slice Ao32 t525.length co32)) (fun _ hk=>hk.2) (.slice Ao33 t528.length co33)) (fun _ hk=>⟨hk.1.1.2,hk.1.2⟩)⟩
    have n11_ : Aside0 (((((w27.setCell ⟨gb532,0,none⟩ (.bool t521)).setCell ⟨gb532,1,none⟩ (.slice Ao31 t522.length co31)).setCell ⟨gb532,2,none⟩ (.slice Ao32 t525.length co32)).setCell ⟨gb532,3,none⟩ (.slice Ao33 t528.length co33)).heap[gb502]? = some (.cells #[.bool t492,.slice Ao13 t493.length co13,.slice Ao14 t496.length co14,.slice Ao15 t499.length co15] 29 (0,0))):=⟨by exact kW_ BK502⟩
    have n12_ : Aside0 (((((w27.setCell ⟨gb532,0,none⟩ (.bool t521)).setCell ⟨gb532,1,none⟩ (.slice Ao31 t522.length co31)).setCell ⟨gb532,2,none⟩ (.slice Ao32 t525.length co32)).setCell ⟨gb532,3,none⟩ (.slice Ao33 t528.length co33)).heap[gb520]? = some (.cells #[.bool t509,.slice Ao23 t510.length co23,.slice Ao24 t513.length co24,.slice Ao25 t516.length co25] 29 (0,0))):=⟨by exact kW_ BK520⟩
    have n13_ : Aside0 (((((w27.setCell ⟨gb532,0,none⟩ (.bool t521)).setCell ⟨gb532,1,none⟩ (.slice Ao31 t522.length co31)).setCell ⟨gb532,2,none⟩ (.slice Ao32 t525.length co32)).setCell ⟨gb532,3,none⟩ (.slice Ao33 t528.length co33)).heap[gb532]? = some (.cells #[.bool t521,.slice Ao31 t522.length co31,.slice Ao32 t525.length co32,.slice Ao33 t528.length co33] 29 (0,0))):=⟨by (with_reducible repeat (first | refine kN_ ?_ _ | refine kD_ ?_ | refine kA_ ?_ _));refine kP_ (cs:=#[.bool t521,.slice Ao31 t522.length co31,.slice Ao32 t525.length co32,.slice none 0 0]) ?_ 3 _ rfl;(with_reducible repeat (first | refine kN_ ?_ _ | refine kD_ ?_ | refine kA_ ?_ _));refine kP_ (cs:=#[.bool t521,.slice Ao31 t522.length co31,.slice none 0 0,.slice none 0 0]) ?_ 2 _ rfl;(with_reducible repeat (first | refine kN_ ?_ _ | refine kD_ ?_ | refine kA_ ?_ _));refine kP_ (cs:=#[.bool t521,.slice none 0 0,.slice none 0 0,.slice none 0 0]) ?_ 1 _ rfl;(with_reducible repeat (first | refine kN_ ?_ _ | refine kD_ ?_ | refine kA_ ?_ _));refine kP_ (cs:=#[.bool false,.slice none 0 0,.slice none 0 0,.slice none 0 0]) ?_ 0 _ rfl;exact kZ_ BK532⟩
    have n14_ : Aside0 (Below w.heap.size w ((((w27.setCell ⟨gb532,0,none⟩ (.bool t521)).setCell ⟨gb532,1,none⟩ (.slice Ao31 t522.length co31)).setCell ⟨gb532,2,none⟩ (.slice Ao32 t525.length co32)).setCell ⟨gb532,3,none⟩ (.slice Ao33 t528.length co33))):=⟨by exact bZ_ HB⟩
    clear HO495 HO498 HO501 HO505 HO508 HO512 HO515 HO518 HO524 HO527 HO530 BK502 BK520 BK532 HB
    generalize ((((w27.setCell ⟨gb532,0,none⟩ (.bool t521)).setCell ⟨gb532,1,none⟩ (.slice Ao31 t522.length co31)).setCell ⟨gb532,2,none⟩ (.slice Ao32 t525.length co32)).setCell ⟨gb532,3,none⟩ (.slice Ao33 t528.length co33)) = w35 at n0_ n1_ n2_ n3_ n4_ n5_ n6_ n7_ n8_ n9_ n10_ n11_ n12_ n13_ n14_ ⊢
    have HO495:=n0_
    have HO498:=n1_
    have HO501:=n2_
    have HO505:=n3_
    have HO508:=n4_
    have HO512:=n5_
    have HO515:=n6_
    have HO518:=n7_
    have HO524:=n8_
    have HO527:=n9_
    have HO530:=n10_
    have BK502:=n11_
    have BK520:=n12_
    have BK532:=n13_
    have HB:=n14_
    clear n0_ n1_ n2_ n3_ n4_ n5_ n6_ n7_ n8_ n9_ n10_ n11_ n12_ n13_ n14_
    have n0_:=aM_ (rD_ HO495.out)
    have n1_:=aM_ (rD_ HO498.out)
    have n2_:=aM_ (rD_ HO501.out)
    have n3_:=aM_ (rD_ HO505.out)
    have n4_:=aM_ (rD_ HO508.out)
    have n5_:=aM_ (rD_ HO512.out)
    have n6_:=aM_ (rD_ HO515.out)
    have n7_:=aM_ (rD_ HO518.out)
    have n8_:=aM_ (rD_ HO524.out)
    have n9_:=aM_ (rD_ HO527.out)
    have n10_:=aM_ (rD_ HO530.out)
    have n11_:=aM_ (kD_ BK502.out)
    have n12_:=aM_ (kD_ BK520.out)
    have n13_:=aM_ (kD_ BK532.out)
    have n14_:=aM_ (bD_ HB.out)
    clear HO495 HO498 HO501 HO505 HO508 HO512 HO515 HO518 HO524 HO527 HO530 BK502 BK520 BK532 HB
    have HO495:=n0_
    have HO498:=n1_
    have HO501:=n2_
    have HO505:=n3_
    have HO508:=n4_
    have HO512:=n5_
    have HO515:=n6_
    have HO518:=n7_
    have HO524:=n8_
    have HO527:=n9_
    have HO530:=n10_
    have BK502:=n11_
    have BK520:=n12_
    have BK532:=n13_
    have HB:=n14_
    clear n0_ n1_ n2_ n3_ n4_ n5_ n6_ n7_ n8_ n9_ n10_ n11_ n12_ n13_ n14_
    refine start_ (n:=25) (S:=fun w'=>True) (ds:=[]) (tb_ 0 25) (by kernel_rfl) rfl rfl trivial (fun hHeld=>?_);refine with_tabW laws_FnNodes.tab8 laws_FnNodes.bits8 (fun HT_ HW_=>?_)
    generalize w35.drew = w36 at HO495 HO498 HO501 HO505 HO508 HO512 HO515 HO518 HO524 HO527 HO530 BK502 BK520 BK532 HB hHeld ⊢
    refine pure_ (i:=0) (N:=some 30) (v:=?_) (a':=?_) (tb_ 1 24) rfl rfl (any_of HT_.out (by kernel_rfl)) (fun _ _ _ h=>h) (Or.inl ⟨by rfl,?_⟩) ?_ ?_
    rotate_left
    ·intro w'
     go_simp
     with_reducible rfl
    rotate_left
    ·simp only [Act.put,sI_,sZ_,sS_,i64_w,i32_w]
     rfl
    refine pure_ (i:=1) (N:=some 31) (v:=?_) (a':=?_) (tb_ 2 23) rfl rfl (any_of HT_.out (by kernel_rfl)) (fun _ _ _ h=>h) (Or.inl ⟨by rfl,?_⟩) ?_ ?_
    rotate_left
    ·intro w'
     go_simp
     with_reducible rfl
    rotate_left
    ·simp only [Act.put,sI_,sZ_,sS_,i64_w,i32_w]
     rfl
    refine pure_ (i:=2) (N:=some 32) (v:=?_) (a':=?_) (tb_ 3 22) rfl rfl (any_of HT_.out (by kernel_rfl)) (fun _ _ _ h=>h) (Or.inl ⟨by rfl,?_⟩) ?_ ?_
    rotate_left
    ·intro w'
     go_simp
     with_reducible rfl
    rotate_left
    ·simp only [Act.put,sI_,sZ_,sS_,i64_w,i32_w]
     rfl
    refine pure_ (i:=3) (N:=some 33) (v:=?_) (a':=?_) (tb_ 4 21) rfl rfl (any_of HT_.out (by kernel_rfl)) (fun _ _ _ h=>h) (Or.inl ⟨by rfl,?_⟩) ?_ ?_
    rotate_left
    ·intro w'
     go_simp
     with_reducible rfl
    rotate_left
    ·simp only [Act.put,sI_,sZ_,sS_,i64_w,i32_w]
     rfl
    refine pure_ (i:=4) (N:=some 34) (v:=undef) (a':=?_) (tb_ 5 20) rfl rfl (any_of HT_.out (by kernel_rfl)) (fun _ _ _ h=>h) (Or.inr ⟨by rfl,rfl⟩) ?_ ?_
    rotate_left
    ·simp only [Act.put,sI_,sZ_,sS_,i64_w,i32_w]
     rfl
    refine pure_ (i:=5) (N:=some 35) (v:=undef) (a':=?_) (tb_ 6 19) rfl rfl (any_of HT_.out (by kernel_rfl)) (fun _ _ _ h=>h) (Or.inr ⟨by rfl,rfl⟩) ?_ ?_
    rotate_left
    ·simp only [Act.put,sI_,sZ_,sS_,i64_w,i32_w]
     rfl
    refine pure_ (i:=6) (N:=some 36) (v:=undef) (a':=?_) (tb_ 7 18) rfl rfl (any_of HT_.out (by kernel_rfl)) (fun _ _ _ h=>h) (Or.inr ⟨by rfl,rfl⟩) ?_ ?_
    rotate_left
    ·simp only [Act.put,sI_,sZ_,sS_,i64_w,i32_w]
     rfl
    refine pure_ (i:=7) (N:=some 37) (v:=undef) (a':=?_) (tb_ 8 17) rfl rfl (any_of HT_.out (by kernel_rfl)) (fun _ _ _ h=>h) (Or.inr ⟨by rfl,rfl⟩) ?_ ?_
    rotate_left
    ·simp only [Act.put,sI_,sZ_,sS_,i64_w,i32_w]
     rfl
    refine pure_ (i:=8) (N:=some 38) (v:=undef) (a':=?_) (tb_ 9 16) rfl rfl (any_of HT_.out (by kernel_rfl)) (fun _ _ _ h=>h) (Or.inr ⟨by rfl,rfl⟩) ?_ ?_
    rotate_left
    ·simp only [Act.put,sI_,sZ_,sS_,i64_w,i32_w]
     rfl
    refine pure_ (i:=9) (N:=some 39) (v:=undef) (a':=?_) (tb_ 10 15) rfl rfl (any_of HT_.out (by kernel_rfl)) (fun _ _ _ h=>h) (Or.inr ⟨by rfl,rfl⟩) ?_ ?_
    rotate_left
    ·simp only [Act.put,sI_,sZ_,sS_,i64_w,i32_w]
     rfl
    refine pure_ (i:=10) (N:=some 40) (v:=undef) (a':=?_) (tb_ 11 14) rfl rfl (any_of HT_.out (by kernel_rfl)) (fun _ _ _ h=>h) (Or.inr ⟨by rfl,rfl⟩) ?_ ?_
    rotate_left
    ·simp only [Act.put,sI_,sZ_,sS_,i64_w,i32_w]
     rfl
    refine pure_ (i:=11) (N:=some 41) (v:=undef) (a':=?_) (tb_ 12 13) rfl rfl (any_of HT_.out (by kernel_rfl)) (fun _ _ _ h=>h) (Or.inr ⟨by rfl,rfl⟩) ?_ ?_
    rotate_left
    ·simp only [Act.put,sI_,sZ_,sS_,i64_w,i32_w]
     rfl
    refine pure_ (i:=12) (N:=some 42) (v:=undef) (a':=?_) (tb_ 13 12) rfl rfl (any_of HT_.out (by kernel_rfl)) (fun _ _ _ h=>h) (Or.inr ⟨by rfl,rfl⟩) ?_ ?_
    rotate_left
    ·simp only [Act.put,sI_,sZ_,sS_,i64_w,i32_w]
     rfl
    refine pure_ (i:=13) (N:=some 43) (v:=undef) (a':=?_) (tb_ 14 11) rfl rfl (any_of HT_.out (by kernel_rfl)) (fun _ _ _ h=>h) (Or.inr ⟨by rfl,rfl⟩) ?_ ?_
    rotate_left
    ·simp only [Act.put,sI_,sZ_,sS_,i64_w,i32_w]
     rfl
    refine pure_ (i:=14) (N:=some 44) (v:=undef) (a':=?_) (tb_ 15 10) rfl rfl (any_of HT_.out (by kernel_rfl)) (fun _ _ _ h=>h) (Or.inr ⟨by rfl,rfl⟩) ?_ ?_
    rotate_left
    ·simp only [Act.put,sI_,sZ_,sS_,i64_w,i32_w]
     rfl
    refine pure_ (i:=15) (N:=some 45) (v:=undef) (a':=?_) (tb_ 16 9) rfl rfl (any_of HT_.out (by kernel_rfl)) (fun _ _ _ h=>h) (Or.inr ⟨by rfl,rfl⟩) ?_ ?_
    rotate_left
    ·simp only [Act.put,sI_,sZ_,sS_,i64_w,i32_w]
     rfl
    refine pure_ (i:=16) (N:=some 46) (v:=undef) (a':=?_) (tb_ 17 8) rfl rfl (any_of HT_.out (by kernel_rfl)) (fun _ _ _ h=>h) (Or.inr ⟨by rfl,rfl⟩) ?_ ?_
    rotate_left
    ·simp only [Act.put,sI_,sZ_,sS_,i64_w,i32_w]
     rfl
    refine pure_ (i:=17) (N:=some 47) (v:=?_) (a':=?_) (tb_ 18 7) rfl rfl (any_of HT_.out (by kernel_rfl)) (fun _ _ _ h=>h) (Or.inl ⟨by rfl,?_⟩) ?_ ?_
    rotate_left
    ·intro w'
     go_simp
     with_reducible rfl
    rotate_left
    ·simp only [Act.put,sI_,sZ_,sS_,i64_w,i32_w]
     rfl
    refine pure_ (i:=18) (N:=some 48) (v:=?_) (a':=?_) (tb_ 19 6) rfl rfl (any_of HT_.out (by kernel_rfl)) (fun _ _ _ h=>h) (Or.inl ⟨by rfl,?_⟩) ?_ ?_
    rotate_left
    ·intro w'
     go_simp
     with_reducible rfl
    rotate_left
    ·simp only [Act.put,sI_,sZ_,sS_,i64_w,i32_w]
     rfl
    refine pure_ (i:=19) (N:=some 49) (v:=undef) (a':=?_) (tb_ 20 5) rfl rfl (any_of HT_.out (by kernel_rfl)) (fun _ _ _ h=>h) (Or.inr ⟨by rfl,rfl⟩) ?_ ?_
    rotate_left
    ·simp only [Act.put,sI_,sZ_,sS_,i64_w,i32_w]
     rfl
    refine pure_ (i:=20) (N:=some 50) (v:=undef) (a':=?_) (tb_ 21 4) rfl rfl (any_of HT_.out (by kernel_rfl)) (fun _ _ _ h=>h) (Or.inr ⟨by rfl,rfl⟩) ?_ ?_
    rotate_left
    ·simp only [Act.put,sI_,sZ_,sS_,i64_w,i32_w]
     rfl
    refine pure_ (i:=21) (N:=some 51) (v:=undef) (a':=?_) (tb_ 22 3) rfl rfl (any_of HT_.out (by kernel_rfl)) (fun _ _ _ h=>h) (Or.inr ⟨by rfl,rfl⟩) ?_ ?_
    rotate_left
    ·simp only [Act.put,sI_,sZ_,sS_,i64_w,i32_w]
     rfl
    refine pure_ (i:=22) (N:=some 52) (v:=undef) (a':=?_) (tb_ 23 2) rfl rfl (any_of HT_.out (by kernel_rfl)) (fun _ _ _ h=>h) (Or.inr ⟨by rfl,rfl⟩) ?_ ?_
    rotate_left
    ·simp only [Act.put,sI_,sZ_,sS_,i64_w,i32_w]
     rfl
    refine pure_ (i:=23) (N:=some 53) (v:=undef) (a':=?_) (tb_ 24 1) rfl rfl (any_of HT_.out (by kernel_rfl)) (fun _ _ _ h=>h) (Or.inr ⟨by rfl,rfl⟩) ?_ ?_
    rotate_left
    ·simp only [Act.put,sI_,sZ_,sS_,i64_w,i32_w]
     rfl
    refine pure_ (i:=24) (N:=some 54) (v:=?_) (a':=?_) (tb_ 25 0) rfl rfl (any_of HT_.out (by kernel_rfl)) (fun _ _ _ h=>h) (Or.inl ⟨by rfl,?_⟩) ?_ ?_
    rotate_left
    ·intro w'
     go_simp
     with_reducible rfl
    rotate_left
    ·simp only [Act.put,sI_,sZ_,sS_,i64_w,i32_w]
     rfl
    refine done_ (done_of HT_.out (by kernel_rfl)) ?_
    try go_wp2
    (first | go_meet | (refine Met.intro ?_;go_step;(repeat apply Exists.intro);refine ⟨?rel,?eq⟩;(case eq=>(try simp only [c29b0]);(try simp only [c29b0]);(try simp only [c34b0]);rfl)))
    case rel=>exact ⟨_,(true),(by first | rfl | (simp;done) | (simp [*];done)),H', ⟨by first | omega | exact Nat.le_refl _⟩,⟨by (with_reducible repeat (first | apply rA_ | apply rN_ | apply rD_));exact Kd.R_mono HO505.out (fun _ hk=>trivial)⟩,⟨by exact rZ_ HO495⟩,⟨by exact rZ_ HO498⟩,⟨by exact rZ_ HO501⟩,⟨by exact rZ_ HO512⟩,⟨by exact rZ_ HO515⟩,⟨by exact rZ_ HO518⟩,⟨by exact rZ_ HO524⟩,⟨by exact rZ_ HO527⟩,⟨by exact rZ_ HO530⟩,⟨by exact kZ_ BK502⟩,⟨by exact kZ_ BK520⟩,⟨by exact kZ_ BK532⟩,⟨by exact bZ_ HB⟩⟩
   ·rw [if_neg c34] at H
    have c34b0 : (t519 != t531) = false:=by simpa using c34
    (try (have c34b1 : decide (t519 = t531) = true:=by simpa using c34))
    (try (have c34b2 : (t519 == t531) = true:=by simpa using c34))
    clear c34
    (first | rw [c34b0] | (simp only [i64_w,i32_w];rw [c34b0]) | skip)
    by_cases c37 : t519 = true
    ·subst c37
     have H1 : ((impl_NodeOk.f k t509 t510 t513 t516).bind fun t533=>(if t533 = true then ((impl_PutNode.f k t509 t510 t513 t516).bind fun t534=>((laws_sameBytes.f k t534 t506).bind fun t537=>(if t537 = true then ((impl_SizeOf.f k t492 t493 t496 t499).bind fun t538=>((spec_SizeOf.f k t492 t493 t496 t499).bind fun t539=>(laws_FnNodes.j0 k t503 (t538 != t539) t492 t493 t496 t499))) else (laws_FnNodes.j0 k t503 true t492 t493 t496 t499)))) else (laws_FnNodes.j0 k t503 true t492 t493 t496 t499))) = some r:=by rw [if_pos rfl] at H;exact H
     clear H
     have H:=H1
     clear H1
     replace H:=oB_ H
     obtain ⟨t533,A380,H⟩:=H
     replace H : (if t533 = true then ((impl_PutNode.f k t509 t510 t513 t516).bind fun t534=>((laws_sameBytes.f k t534 t506).bind fun t537=>(if t537 = true then ((impl_SizeOf.f k t492 t493 t496 t499).bind fun t538=>((spec_SizeOf.f k t492 t493 t496 t499).bind fun t539=>(laws_FnNodes.j0 k t503 (t538 != t539) t492 t493 t496 t499))) else (laws_FnNodes.j0 k t503 true t492 t493 t496 t499)))) else (laws_FnNodes.j0 k t503 true t492 t493 t496 t499)) = some r:=H
     have A38:=aM_ A380
     clear A380
     by_cases c39 : t533 = true
     ·subst c39
      have H1 : ((impl_PutNode.f k t509 t510 t513 t516).bind fun t534=>((laws_sameBytes.f k t534 t506).bind fun t537=>(if t537 = true then ((impl_SizeOf.f k t492 t493 t496 t499).bind fun t538=>((spec_SizeOf.f k t492 t493 t496 t499).bind fun t539=>(laws_FnNodes.j0 k t503 (t538 != t539) t492 t493 t496 t499))) else (laws_FnNodes.j0 k t503 true t492 t493 t496 t499)))) = some r:=by rw [if_pos rfl] at H;exact H
      clear H
      have H:=H1
      clear H1
      replace H:=oB_ H
      obtain ⟨t534,A400,H⟩:=H
      replace H : ((laws_sameBytes.f k t534 t506).bind fun t537=>(if t537 = true then ((impl_SizeOf.f k t492 t493 t496 t499).bind fun t538=>((spec_SizeOf.f k t492 t493 t496 t499).bind fun t539=>(laws_FnNodes.j0 k t503 (t538 != t539) t492 t493 t496 t499))) else (laws_FnNodes.j0 k t503 true t492 t493 t496 t499))) = some r:=H
      have A40:=aM_ A400
      clear A400
      replace H:=oB_ H
      obtain ⟨t537,A410,H⟩:=H
      replace H : (if t537 = true then ((impl_SizeOf.f k t492 t493 t496 t499).bind fun t538=>((spec_SizeOf.f k t492 t493 t496 t499).bind fun t539=>(laws_FnNodes.j0 k t503 (t538 != t539) t492 t493 t496 t499))) else (laws_FnNodes.j0 k t503 true t492 t493 t496 t499)) = some r:=H
      have A41:=aM_ A410
      clear A410
      by_cases c42 : t537 = true
      ·subst c42
       have H1 : ((impl_SizeOf.f k t492 t493 t496 t499).bind fun t538=>((spec_SizeOf.f k t492 t493 t496 t499).bind fun t539=>(laws_FnNodes.j0 k t503 (t538 != t539) t492 t493 t496 t499))) = some r:=by rw [if_pos rfl] at H;exact H
       clear H
       have H:=H1
       clear H1
       replace H:=oB_ H
       obtain ⟨t538,A430,H⟩:=H
       replace H : ((spec_SizeOf.f k t492 t493 t496 t499).bind fun t539=>(laws_FnNodes.j0 k t503 (t538 != t539) t492 t493 t496 t499)) = some r:=H
       have A43:=aM_ A430
       clear A430
       replace H:=oB_ H
       obtain ⟨t539,A440,H⟩:=H
       replace H : (laws_FnNodes.j0 k t503 (t538 != t539) t492 t493 t496 t499) = some r:=H
       have A44:=aM_ A440
       clear A440
       have H':=aM_ H
       clear H
       try go_wp2
       have n0_ : Aside0 (Kd.R Kd.string 9 ((((w27.setCell ⟨gb532,0,none⟩ (.bool t521)).setCell ⟨gb532,1,none⟩ (.slice Ao31 t522.length co31)).setCell ⟨gb532,2,none⟩ (.slice Ao32 t525.length co32)).setCell ⟨gb532,3,none⟩ (.slice Ao33 t528.length co33)) w.heap.size (fun k_=>some k_ ≠ (.slice Ao14 t496.length co14 : Value).ownBlock ∧ some k_ ≠ (.slice Ao23 t510.length co23 : Value).ownBlock ∧ some k_ ≠ (.slice Ao24 t513.length co24 : Value).ownBlock ∧ some k_ ≠ (.slice Ao31 t522.length co31 : Value).ownBlock ∧ some k_ ≠ (.slice Ao32 t525.length co32 : Value).ownBlock) (.slice Ao13 t493.length co13) t493):=⟨by (with_reducible repeat (first | apply rA_ | apply rN_ | apply rD_));exact Kd.R_mono (Kd.R_far (p:=⟨gb532,3,none⟩) (Kd.R_far (p:=⟨gb532,2,none⟩) (Kd.R_far (p:=⟨gb532,1,none⟩) (Kd.R_far (p:=⟨gb532,0,none⟩) (Kd.R_types HO495.out BK532.out (by decide)) (fun _ hk=>hk.2) (.bool t521)) (fun _ hk=>hk.2) (.slice Ao31 t522.length co31)) (fun _ hk=>hk.2) (.slice Ao32 t525.length co32)) (fun _ hk=>hk.2) (.slice Ao33 t528.length co33)) (fun _ hk=>⟨hk.1.1.1.1.1,⟨hk.1.1.1.1.2,⟨hk.1.1.1.2,⟨hk.1.1.2,hk.1.2⟩⟩⟩⟩)⟩
       have n1_ : Aside0 (Kd.R Kd.string 9 ((((w27.setCell ⟨gb532,0,none⟩ (.bool t521)).setCell ⟨gb532,1,none⟩ (.slice Ao31 t522.length co31)).setCell ⟨gb532,2,none⟩ (.slice Ao32 t525.length co32)).setCell ⟨gb532,3,none⟩ (.slice Ao33 t528.length co33)) w.heap.size (fun k_=>some k_ ≠ (.slice Ao13 t493.length co13 : Value).ownBlock ∧ some k_ ≠ (.slice Ao23 t510.length co23 : Value).ownBlock ∧ some k_ ≠ (.slice Ao24 t513.length co24 : Value).ownBlock ∧ some k_ ≠ (.slice Ao31 t522.length co31 : Value).ownBlock ∧ some k_ ≠ (.slice Ao32 t525.length co32 : Value).ownBlock) (.slice Ao14 t496.length co14) t496):=⟨by (with_reducible repeat (first | apply rA_ | apply rN_ | apply rD_));exact Kd.R_mono (Kd.R_far (p:=⟨gb532,3,none⟩) (Kd.R_far (p:=⟨gb532,2,none⟩) (Kd.R_far (p:=⟨gb532,1,none⟩) (Kd.R_far (p:=⟨gb532,0,none⟩) (Kd.R_types HO498.out BK532.out (by decide)) (fun _ hk=>hk.2) (.bool t521)) (fun _ hk=>hk.2) (.slice Ao31 t522.length co31)) (fun _ hk=>hk.2) (.slice Ao32 t525.length co32)) (fun _ hk=>hk.2) (.slice Ao33 t528.length co33)) (fun _ hk=>⟨hk.1.1.1.1.1,⟨hk.1.1.1.1.2,⟨hk.1.1.1.2,⟨hk.1.1.2,hk.1.2⟩⟩⟩⟩)⟩
       have n2_ : Aside0 (Kd.R (Kd.int .i64) 3 ((((w27.setCell ⟨gb532,0,none⟩ (.bool t521)).setCell ⟨gb532,1,none⟩ (.slice Ao31 t522.length co31)).setCell ⟨gb532,2,none⟩ (.slice Ao32 t525.length co32)).setCell ⟨gb532,3,none⟩ (.slice Ao33 t528.length co33)) w.heap.size (fun k_=>some k_ ≠ (.slice Ao25 t516.length co25 : Value).ownBlock ∧ some k_ ≠ (.slice Ao33 t528.length co33 : Value).ownBlock) (.slice Ao15 t499.length co15) t499):=⟨by (with_reducible repeat (first | apply rA_ | apply rN_ | apply rD_));exact Kd.R_mono (Kd.R_far (p:=⟨gb532,3,none⟩) (Kd.R_far (p:=⟨gb532,2,none⟩) (Kd.R_far (p:=⟨gb532,1,none⟩) (Kd.R_far (p:=⟨gb532,0,none⟩) (Kd.R_types HO501.out BK532.out (by decide)) (fun _ hk=>hk.2) (.bool t521)) (fun _ hk=>hk.2) (.slice Ao31 t522.length co31)) (fun _ hk=>hk.2) (.slice Ao32 t525.length co32)) (fun _ hk=>hk.2) (.slice Ao33 t528.length co33)) (fun _ hk=>⟨hk.1.1.2,hk.1.2⟩)⟩
       have n3_ : Aside0 (Kd.R (Kd.int .u8) 5 ((((w27.setCell ⟨gb532,0,none⟩ (.bool t521)).setCell ⟨gb532,1,none⟩ (.slice Ao31 t522.length co31)).setCell ⟨gb532,2,none⟩ (.slice Ao32 t525.length co32)).setCell ⟨gb532,3,none⟩ (.slice Ao33 t528.length co33)) w.heap.size (fun k_=>some k_ ≠ (.slice Ao18 t506.length co18 : Value).ownBlock) v504 t503):=⟨by (with_reducible repeat (first | apply rA_ | apply rN_ | apply rD_));exact Kd.R_mono (Kd.R_far (p:=⟨gb532,3,none⟩) (Kd.R_far (p:=⟨gb532,2,none⟩) (Kd.R_far (p:=⟨gb532,1,none⟩) (Kd.R_far (p:=⟨gb532,0,none⟩) (Kd.R_types HO505.out BK532.out (by decide)) (fun _ hk=>hk.2) (.bool t521)) (fun _ hk=>hk.2) (.slice Ao31 t522.length co31)) (fun _ hk=>hk.2) (.slice Ao32 t525.length co32)) (fun _ hk=>hk.2) (.slice Ao33 t528.length co33)) (fun _ hk=>hk.1.2)⟩
       have n4_ : Aside0 (Kd.R (Kd.int .u8) 5 ((((w27.setCell ⟨gb532,0,none⟩ (.bool t521)).setCell ⟨gb532,1,none⟩ (.slice Ao31 t522.length co31)).setCell ⟨gb532,2,none⟩ (.slice Ao32 t525.length co32)).setCell ⟨gb532,3,none⟩ (.slice Ao33 t528.length co33)) w.heap.size (fun k_=>some k_ ≠ (v504 : Value).ownBlock) (.slice Ao18 t506.length co18) t506):=⟨by (with_reducible repeat (first | apply rA_ | apply rN_ | apply rD_));exact Kd.R_mono (Kd.R_far (p:=⟨gb532,3,none⟩) (Kd.R_far (p:=⟨gb532,2,none⟩) (Kd.R_far (p:=⟨gb532,1,none⟩) (Kd.R_far (p:=⟨gb532,0,none⟩) (Kd.R_types HO508.out BK532.out (by decide)) (fun _ hk=>hk.2) (.bool t521)) (fun _ hk=>hk.2) (.slice Ao31 t522.length co31)) (fun _ hk=>hk.2) (.slice Ao32 t525.length co32)) (fun _ hk=>hk.2) (.slice Ao33 t528.length co33)) (fun _ hk=>hk.1.2)⟩
       have n5_ : Aside0 (Kd.R Kd.string 9 ((((w27.setCell ⟨gb532,0,none⟩ (.bool t521)).setCell ⟨gb532,1,none⟩ (.slice Ao31 t522.length co31)).setCell ⟨gb532,2,none⟩ (.slice Ao32 t525.length co32)).setCell ⟨gb532,3,none⟩ (.slice Ao33 t528.length co33)) w.heap.size (fun k_=>some k_ ≠ (.slice Ao13 t493.length co13 : Value).ownBlock ∧ some k_ ≠ (.slice Ao14 t496.length co14 : Value).ownBlock ∧ some k_ ≠ (.slice Ao24 t513.length co24 : Value).ownBlock ∧ some k_ ≠ (.slice Ao31 t522.length co31 : Value).ownBlock ∧ some k_ ≠ (.slice Ao32 t525.length co32 : Value).ownBlock) (.slice Ao23 t510.length co23) t510):=⟨by (with_reducible repeat (first | apply rA_ | apply rN_ | apply rD_));exact Kd.R_mono (Kd.R_far (p:=⟨gb532,3,none⟩) (Kd.R_far (p:=⟨gb532,2,none⟩) (Kd.R_far (p:=⟨gb532,1,none⟩) (Kd.R_far (p:=⟨gb532,0,none⟩) (Kd.R_types HO512.out BK532.out (by decide)) (fun _ hk=>hk.2) (.bool t521)) (fun _ hk=>hk.2) (.slice Ao31 t522.length co31)) (fun _ hk=>hk.2) (.slice Ao32 t525.length co32)) (fun _ hk=>hk.2) (.slice Ao33 t528.length co33)) (fun _ hk=>⟨hk.1.1.1.1.2,⟨hk.1.1.1.2,⟨hk.1.1.1.1.1,⟨hk.1.1.2,hk.1.2⟩⟩⟩⟩)⟩
       have n6_ : Aside0 (Kd.R Kd.string 9 ((((w27.setCell ⟨gb532,0,none⟩ (.bool t521)).setCell ⟨gb532,1,none⟩ (.slice Ao31 t522.length co31)).setCell ⟨gb532,2,none⟩ (.slice Ao32 t525.length co32)).setCell ⟨gb532,3,none⟩ (.slice Ao33 t528.length co33)) w.heap.size (fun k_=>some k_ ≠ (.slice Ao13 t493.length co13 : Value).ownBlock ∧ some k_ ≠ (.slice Ao14 t496.length co14 : Value).ownBlock ∧ some k_ ≠ (.slice Ao23 t510.length co23 : Value).ownBlock ∧ some k_ ≠ (.slice Ao31 t522.length co31 : Value).ownBlock ∧ some k_ ≠ (.slice Ao32 t525.length co32 : Value).ownBlock) (.slice Ao24 t513.length co24) t513):=⟨by (with_reducible repeat (first | apply rA_ | apply rN_ | apply rD_));exact Kd.R_mono (Kd.R_far (p:=⟨gb532,3,none⟩) (Kd.R_far (p:=⟨gb532,2,none⟩) (Kd.R_far (p:=⟨gb532,1,none⟩) (Kd.R_far (p:=⟨gb532,0,none⟩) (Kd.R_types HO515.out BK532.out (by decide)) (fun _ hk=>hk.2) (.bool t521)) (fun _ hk=>hk.2) (.slice Ao31 t522.length co31)) (fun _ hk=>hk.2) (.slice Ao32 t525.length co32)) (fun _ hk=>hk.2) (.slice Ao33 t528.length co33)) (fun _ hk=>⟨hk.1.1.1.1.2,⟨hk.1.1.1.2,⟨hk.1.1.1.1.1,⟨hk.1.1.2,hk.1.2⟩⟩⟩⟩)⟩
       have n7_ : Aside0 (Kd.R (Kd.int .i64) 3 ((((w27.setCell ⟨gb532,0,none⟩ (.bool t521)).setCell ⟨gb532,1,none⟩ (.slice Ao31 t522.length co31)).setCell ⟨gb532,2,none⟩ (.slice Ao32 t525.length co32)).setCell ⟨gb532,3,none⟩ (.slice Ao33 t528.length co33)) w.heap.size (fun k_=>some k_ ≠ (.slice Ao15 t499.length co15 : Value).ownBlock ∧ some k_ ≠ (.slice Ao33 t528.length co33 : Value).ownBlock) (.slice Ao25 t516.length co25) t516):=⟨by (with_reducible repeat (first | apply rA_ | apply rN_ | apply rD_));exact Kd.R_mono (Kd.R_far (p:=⟨gb532,3,none⟩) (Kd.R_far (p:=⟨gb532,2,none⟩) (Kd.R_far (p:=⟨gb532,1,none⟩) (Kd.R_far (p:=⟨gb532,0,none⟩) (Kd.R_types HO518.out BK532.out (by decide)) (fun _ hk=>hk.2) (.bool t521)) (fun _ hk=>hk.2) (.slice Ao31 t522.length co31)) (fun _ hk=>hk.2) (.slice Ao32 t525.length co32)) (fun _ hk=>hk.2) (.slice Ao33 t528.length co33)) (fun _ hk=>⟨hk.1.1.2,hk.1.2⟩)⟩
       have n8_ : Aside0 (Kd.R Kd.string 9 ((((w27.setCell ⟨gb532,0,none⟩ (.bool t521)).setCell ⟨gb532,1,none⟩ (.slice Ao31 t522.length co31)).setCell ⟨gb532,2,none⟩ (.slice Ao32 t525.length co32)).setCell ⟨gb532,3,none⟩ (.slice Ao33 t528.length co33)) w.heap.size (fun k_=>some k_ ≠ (.slice Ao13 t493.length co13 : Value).ownBlock ∧ some k_ ≠ (.slice Ao14 t496.length co14 : Value).ownBlock ∧ some k_ ≠ (.slice Ao23 t510.length co23 : Value).ownBlock ∧ some k_ ≠ (.slice Ao24 t513.length co24 : Value).ownBlock ∧ some k_ ≠ (.slice Ao32 t525.length co32 : Value).ownBlock) (.slice Ao31 t522.length co31) t522):=⟨by (with_reducible repeat (first | apply rA_ | apply rN_ | apply rD_));exact Kd.R_mono (Kd.R_far (p:=⟨gb532,3,none⟩) (Kd.R_far (p:=⟨gb532,2,none⟩) (Kd.R_far (p:=⟨gb532,1,none⟩) (Kd.R_far (p:=⟨gb532,0,none⟩) (Kd.R_types HO524.out BK532.out (by decide)) (fun _ hk=>hk.2) (.bool t521)) (fun _ hk=>hk.2) (.slice Ao31 t522.length co31)) (fun _ hk=>hk.2) (.slice Ao32 t525.length co32)) (fun _ hk=>hk.2) (.slice Ao33 t528.length co33)) (fun _ hk=>⟨hk.1.1.1.1.2,⟨hk.1.1.1.2,⟨hk.1.1.2,⟨hk.1.2,hk.1.1.1.1.1⟩⟩⟩⟩)⟩
       have n9_ : Aside0 (Kd.R Kd.string 9 ((((w27.setCell ⟨gb532,0,none⟩ (.bool t521)).setCell ⟨gb532,1,none⟩ (.slice Ao31 t522.length co31)).setCell ⟨gb532,2,none⟩ (.slice Ao32 t525.length co32)).setCell ⟨gb532,3,none⟩ (.slice Ao33 t528.length co33)) w.heap.size (fun k_=>some k_ ≠ (.slice Ao13 t493.length co13 : Value).ownBlock ∧ some k_ ≠ (.slice Ao14 t496.length co14 : Value).ownBlock ∧ some k_ ≠ (.slice Ao23 t510.length co23 : Value).ownBlock ∧ some k_ ≠ (.slice Ao24 t513.length co24 : Value).ownBlock ∧ some k_ ≠ (.slice Ao31 t522.length co31 : Value).ownBlock) (.slice Ao32 t525.length co32) t525):=⟨by (with_reducible repeat (first | apply rA_ | apply rN_ | apply rD_));exact Kd.R_mono (Kd.R_far (p:=⟨gb532,3,none⟩) (Kd.R_far (p:=⟨gb532,2,none⟩) (Kd.R_far (p:=⟨gb532,1,none⟩) (Kd.R_far (p:=⟨gb532,0,none⟩) (Kd.R_types HO527.out BK532.out (by decide)) (fun _ hk=>hk.2) (.bool t521)) (fun _ hk=>hk.2) (.slice Ao31 t522.length co31)) (fun _ hk=>hk.2) (.slice Ao32 t525.length co32)) (fun _ hk=>hk.2) (.slice Ao33 t528.length co33)) (fun _ hk=>⟨hk.1.1.1.1.2,⟨hk.1.1.1.2,⟨hk.1.1.2,⟨hk.1.2,hk.1.1.1.1.1⟩⟩⟩⟩)⟩
       have n10_ : Aside0 (Kd.R (Kd.int .i64) 3 ((((w27.setCell ⟨gb532,0,none⟩ (.bool t521)).setCell ⟨gb532,1,none⟩ (.slice Ao31 t522.length co31)).setCell ⟨gb532,2,none⟩ (.slice Ao32 t525.length co32)).setCell ⟨gb532,3,none⟩ (.slice Ao33 t528.length co33)) w.heap.size (fun k_=>some k_ ≠ (.slice Ao15 t499.length co15 : Value).ownBlock ∧ some k_ ≠ (.slice Ao25 t516.length co25 : Value).ownBlock) (.slice Ao33 t528.length co33) t528):=⟨by (with_reducible repeat (first | apply rA_ | apply rN_ | apply rD_));exact Kd.R_mono (Kd.R_far (p:=⟨gb532,3,none⟩) (Kd.R_far (p:=⟨gb532,2,none⟩) (Kd.R_far (p:=⟨gb532,1,none⟩) (Kd.R_far (p:=⟨gb532,0,none⟩) (Kd.R_types HO530.out BK532.out (by decide)) (fun _ hk=>hk.2) (.bool t521)) (fun _ hk=>hk.2) (.slice Ao31 t522.length co31)) (fun _ hk=>hk.2) (.slice Ao32 t525.length co32)) (fun _ hk=>hk.2) (.slice Ao33 t528.length co33)) (fun _ hk=>⟨hk.1.1.2,hk.1.2⟩)⟩
       have n11_ : Aside0 (((((w27.setCell ⟨gb532,0,none⟩ (.bool t521)).setCell ⟨gb532,1,none⟩ (.slice Ao31 t522.length co31)).setCell ⟨gb532,2,none⟩ (.slice Ao32 t525.length co32)).setCell ⟨gb532,3,none⟩ (.slice Ao33 t528.length co33)).heap[gb502]? = some (.cells #[.bool t492,.slice Ao13 t493.length co13,.slice Ao14 t496.length co14,.slice Ao15 t499.length co15] 29 (0,0))):=⟨by exact kW_ BK502⟩
       have n12_ : Aside0 (((((w27.setCell ⟨gb532,0,none⟩ (.bool t521)).setCell ⟨gb532,1,none⟩ (.slice Ao31 t522.length co31)).setCell ⟨gb532,2,none⟩ (.slice Ao32 t525.length co32)).setCell ⟨gb532,3,none⟩ (.slice Ao33 t528.length co33)).heap[gb520]? = some (.cells #[.bool t509,.slice Ao23 t510.length co23,.slice Ao24 t513.length co24,.slice Ao25 t516.length co25] 29 (0,0))):=⟨by exact kW_ BK520⟩
       have n13_ : Aside0 (((((w27.setCell ⟨gb532,0,none⟩ (.bool t521)).setCell ⟨gb532,1,none⟩ (.slice Ao31 t522.length co31)).setCell ⟨gb532,2,none⟩ (.slice Ao32 t525.length co32)).setCell ⟨gb532,3,none⟩ (.slice Ao33 t528.length co33)).heap[gb532]? = some (.cells #[.bool t521,.slice Ao31 t522.length co31,.slice Ao32 t525.length co32,.slice Ao33 t528.length co33] 29 (0,0))):=⟨by (with_reducible repeat (first | refine kN_ ?_ _ | refine kD_ ?_ | refine kA_ ?_ _));refine kP_ (cs:=#[.bool t521,.slice Ao31 t522.length co31,.slice Ao32 t525.length co32,.slice none 0 0]) ?_ 3 _ rfl;(with_reducible repeat (first | refine kN_ ?_ _ | refine kD_ ?_ | refine kA_ ?_ _));refine kP_ (cs:=#[.bool t521,.slice Ao31 t522.length co31,.slice none 0 0,.slice none 0 0]) ?_ 2 _ rfl;(with_reducible repeat (first | refine kN_ ?_ _ | refine kD_ ?_ | refine kA_ ?_ _));refine kP_ (cs:=#[.bool t521,.slice none 0 0,.slice none 0 0,.slice none 0 0]) ?_ 1 _ rfl;(with_reducible repeat (first | refine kN_ ?_ _ | refine kD_ ?_ | refine kA_ ?_ _));refine kP_ (cs:=#[.bool false,.slice none 0 0,.slice none 0 0,.slice none 0 0]) ?_ 0 _ rfl;exact kZ_ BK532⟩
       have n14_ : Aside0 (Below w.heap.size w ((((w27.setCell ⟨gb532,0,none⟩ (.bool t521)).setCell ⟨gb532,1,none⟩ (.slice Ao31 t522.length co31)).setCell ⟨gb532,2,none⟩ (.slice Ao32 t525.length co32)).setCell ⟨gb532,3,none⟩ (.slice Ao33 t528.length co33))):=⟨by exact bZ_ HB⟩
       clear HO495 HO498 HO501 HO505 HO508 HO512 HO515 HO518 HO524 HO527 HO530 BK502 BK520 BK532 HB
       generalize ((((w27.setCell ⟨gb532,0,none⟩ (.bool t521)).setCell ⟨gb532,1,none⟩ (.slice Ao31 t522.length co31)).setCell ⟨gb532,2,none⟩ (.slice Ao32 t525.length co32)).setCell ⟨gb532,3,none⟩ (.slice Ao33 t528.length co33)) = w45 at n0_ n1_ n2_ n3_ n4_ n5_ n6_ n7_ n8_ n9_ n10_ n11_ n12_ n13_ n14_ ⊢
       have HO495:=n0_
       have HO498:=n1_
       have HO501:=n2_
       have HO505:=n3_
       have HO508:=n4_
       have HO512:=n5_
       have HO515:=n6_
       have HO518:=n7_
       have HO524:=n8_
       have HO527:=n9_
       have HO530:=n10_
       have BK502:=n11_
       have BK520:=n12_
       have BK532:=n13_
       have HB:=n14_
       clear n0_ n1_ n2_ n3_ n4_ n5_ n6_ n7_ n8_ n9_ n10_ n11_ n12_ n13_ n14_
       have n0_:=aM_ (rD_ HO495.out)
       have n1_:=aM_ (rD_ HO498.out)
       have n2_:=aM_ (rD_ HO501.out)
       have n3_:=aM_ (rD_ HO505.out)
       have n4_:=aM_ (rD_ HO508.out)
       have n5_:=aM_ (rD_ HO512.out)
       have n6_:=aM_ (rD_ HO515.out)
       have n7_:=aM_ (rD_ HO518.out)
       have n8_:=aM_ (rD_ HO524.out)
       have n9_:=aM_ (rD_ HO527.out)
       have n10_:=aM_ (rD_ HO530.out)
       have n11_:=aM_ (kD_ BK502.out)
       have n12_:=aM_ (kD_ BK520.out)
       have n13_:=aM_ (kD_ BK532.out)
       have n14_:=aM_ (bD_ HB.out)
       clear HO495 HO498 HO501 HO505 HO508 HO512 HO515 HO518 HO524 HO527 HO530 BK502 BK520 BK532 HB
       have HO495:=n0_
       have HO498:=n1_
       have HO501:=n2_
       have HO505:=n3_
       have HO508:=n4_
       have HO512:=n5_
       have HO515:=n6_
       have HO518:=n7_
       have HO524:=n8_
       have HO527:=n9_
       have HO530:=n10_
       have BK502:=n11_
       have BK520:=n12_
       have BK532:=n13_
       have HB:=n14_
       clear n0_ n1_ n2_ n3_ n4_ n5_ n6_ n7_ n8_ n9_ n10_ n11_ n12_ n13_ n14_
       refine start_ (n:=25) (S:=fun w'=>w'.cell? ⟨gb520,0,none⟩ = some (.bool t509) ∧ w'.cell? ⟨gb520,1,none⟩ = some (.slice Ao23 t510.length co23) ∧ w'.cell? ⟨gb520,2,none⟩ = some (.slice Ao24 t513.length co24) ∧ w'.cell? ⟨gb520,3,none⟩ = some (.slice Ao25 t516.length co25) ∧ w'.cell? ⟨gb502,0,none⟩ = some (.bool t492) ∧ w'.cell? ⟨gb502,1,none⟩ = some (.slice Ao13 t493.length co13) ∧ w'.cell? ⟨gb502,2,none⟩ = some (.slice Ao14 t496.length co14) ∧ w'.cell? ⟨gb502,3,none⟩ = some (.slice Ao15 t499.length co15)) (ds:=[]) (tb_ 0 25) (by kernel_rfl) rfl rfl ⟨(kC_ BK520.out 0).trans rfl,(kC_ BK520.out 1).trans rfl,(kC_ BK520.out 2).trans rfl,(kC_ BK520.out 3).trans rfl,(kC_ BK502.out 0).trans rfl,(kC_ BK502.out 1).trans rfl,(kC_ BK502.out 2).trans rfl,(kC_ BK502.out 3).trans rfl⟩ (fun hHeld=>?_);refine with_tabW laws_FnNodes.tab8 laws_FnNodes.bits8 (fun HT_ HW_=>?_)
       generalize w45.drew = w46 at HO495 HO498 HO501 HO505 HO508 HO512 HO515 HO518 HO524 HO527 HO530 BK502 BK520 BK532 HB hHeld ⊢
       refine pure_ (i:=0) (N:=some 30) (v:=?_) (a':=?_) (tb_ 1 24) rfl rfl (any_of HT_.out (by kernel_rfl)) (fun _ _ _ h=>h) (Or.inl ⟨by rfl,?_⟩) ?_ ?_
       rotate_left
       ·intro w'
        go_simp
        with_reducible rfl
       rotate_left
       ·simp only [Act.put,sI_,sZ_,sS_,i64_w,i32_w]
        rfl
       refine pure_ (i:=1) (N:=some 31) (v:=?_) (a':=?_) (tb_ 2 23) rfl rfl (any_of HT_.out (by kernel_rfl)) (fun _ _ _ h=>h) (Or.inl ⟨by rfl,?_⟩) ?_ ?_
       rotate_left
       ·intro w'
        go_simp
        with_reducible rfl
       rotate_left
       ·simp only [Act.put,sI_,sZ_,sS_,i64_w,i32_w]
        rfl
       refine pure_ (i:=2) (N:=some 32) (v:=?_) (a':=?_) (tb_ 3 22) rfl rfl (any_of HT_.out (by kernel_rfl)) (fun _ _ _ h=>h) (Or.inl ⟨by rfl,?_⟩) ?_ ?_
       rotate_left
       ·intro w'
        go_simp
        with_reducible rfl
       rotate_left
       ·simp only [Act.put,sI_,sZ_,sS_,i64_w,i32_w]
        rfl
       refine pure_ (i:=3) (N:=some 33) (v:=?_) (a':=?_) (tb_ 4 21) rfl rfl (any_of HT_.out (by kernel_rfl)) (fun _ _ _ h=>h) (Or.inl ⟨by rfl,?_⟩) ?_ ?_
       rotate_left
       ·intro w'
        go_simp
        with_reducible rfl
       rotate_left
       ·simp only [Act.put,sI_,sZ_,sS_,i64_w,i32_w]
        rfl
       refine pure_ (i:=4) (N:=some 34) (v:=?_) (a':=?_) (tb_ 5 20) rfl rfl (any_of HT_.out (by kernel_rfl)) (fun _ _ _ h=>h) (Or.inl ⟨by rfl,?_⟩) ?_ ?_
       rotate_left
       ·intro w'
        go_simp
        with_reducible rfl
       rotate_left
       ·simp only [Act.put,sI_,sZ_,sS_,i64_w,i32_w]
        rfl
       refine pure_ (i:=5) (N:=some 35) (v:=?_) (a':=?_) (tb_ 6 19) rfl rfl (any_of HT_.out (by kernel_rfl)) (fun _ _ _ h=>h) (Or.inl ⟨by rfl,?_⟩) ?_ ?_
       rotate_left
       ·intro w'
        go_simp
        with_reducible rfl
       rotate_left
       ·simp only [Act.put,sI_,sZ_,sS_,i64_w,i32_w]
        rfl
       refine take_ (i:=6) (N:=some 36) (v:=?_) (a':=?_) (tb_ 7 18) rfl rfl (take_ofW HT_.out HW_.out (by kernel_rfl)) (fun _ _ _ h=>h) (Or.inl ⟨by rfl,?_⟩) hHeld ?_ ?_
       rotate_left
       ·rintro w' ⟨s0,s1,s2,s3,s4,s5,s6,s7⟩
        go_simp
        with_reducible rfl
       rotate_left
       ·simp only [Act.put,sI_,sZ_,sS_,i64_w,i32_w]
        rfl
       refine one_ (i:=7) (N:=some 37) (tb_ 8 17) rfl rfl (one_of HT_.out (by kernel_rfl)) (by decide) (fun K hK=>?_)
       refine goes_ Try.func28 (by kernel_rfl) rfl #[.agg #[.bool t509,.slice Ao23 t510.length co23,.slice Ao24 t513.length co24,.slice Ao25 t516.length co25]] (by rfl) rfl rfl (by (try simp only [mA_,mC_,mN_]);first | done | rfl | (simp only [lD_,lT_];rfl)) ?_
       with_reducible refine (impl_NodeOk.calls k t509 _ _ t510 _ _ t513 _ _ t516 true _ ?side1 ?side2 ?side3 ?side4 ?side5 ?side6 A38.out).mono ?_
       (case side1=>repeat (first | exact (Kd.R_reads' HO512.out).2.2 | (with_reducible refine cA_ ?_ _) | (with_reducible refine cN_ ?_ _) | (with_reducible refine cD_ ?_)))
       (case side2=>exact (Kd.R_reads' HO512.out).2.1)
       (case side3=>repeat (first | exact (Kd.R_reads' HO515.out).2.2 | (with_reducible refine cA_ ?_ _) | (with_reducible refine cN_ ?_ _) | (with_reducible refine cD_ ?_)))
       (case side4=>exact (Kd.R_reads' HO515.out).2.1)
       (case side5=>repeat (first | exact (Kd.R_reads' HO518.out).2.2 | (with_reducible refine cA_ ?_ _) | (with_reducible refine cN_ ?_ _) | (with_reducible refine cD_ ?_)))
       (case side6=>exact (Kd.R_reads' HO518.out).2.1)
       rintro e w47 ⟨rfl,hb⟩
       refine ⟨_,rfl,?_⟩
       have n0_:=aM_ (Kd.R_below (by exact rZ_ HO495) hb)
       have n1_:=aM_ (Kd.R_below (by exact rZ_ HO498) hb)
       have n2_:=aM_ (Kd.R_below (by exact rZ_ HO501) hb)
       have n3_:=aM_ (Kd.R_below (by exact rZ_ HO505) hb)
       have n4_:=aM_ (Kd.R_below (by exact rZ_ HO508) hb)
       have n5_:=aM_ (Kd.R_below (by exact rZ_ HO512) hb)
       have n6_:=aM_ (Kd.R_below (by exact rZ_ HO515) hb)
       have n7_:=aM_ (Kd.R_below (by exact rZ_ HO518) hb)
       have n8_:=aM_ (Kd.R_below (by exact rZ_ HO524) hb)
       have n9_:=aM_ (Kd.R_below (by exact rZ_ HO527) hb)
       have n10_:=aM_ (Kd.R_below (by exact rZ_ HO530) hb)
       have n11_:=aM_ (blk_below (g:=gb502) (o:=.cells #[.bool t492,.slice Ao13 t493.length co13,.slice Ao14 t496.length co14,.slice Ao15 t499.length co15] 29 (0,0)) (by exact kZ_ BK502) hb)
       have n12_:=aM_ (blk_below (g:=gb520) (o:=.cells #[.bool t509,.slice Ao23 t510.length co23,.slice Ao24 t513.length co24,.slice Ao25 t516.length co25] 29 (0,0)) (by exact kZ_ BK520) hb)
       have n13_:=aM_ (blk_below (g:=gb532) (o:=.cells #[.bool t521,.slice Ao31 t522.length co31,.slice Ao32 t525.length co32,.slice Ao33 t528.length co33] 29 (0,0)) (by exact kZ_ BK532) hb)
       have n14_:=aM_ (bT_ (by exact bZ_ HB) hb)
       clear HO495 HO498 HO501 HO505 HO508 HO512 HO515 HO518 HO524 HO527 HO530 BK502 BK520 BK532 HB
       have HO495:=n0_
       have HO498:=n1_
       have HO501:=n2_
       have HO505:=n3_
       have HO508:=n4_
       have HO512:=n5_
       have HO515:=n6_
       have HO518:=n7_
       have HO524:=n8_
       have HO527:=n9_
       have HO530:=n10_
       have BK502:=n11_
       have BK520:=n12_
       have BK532:=n13_
       have HB:=n14_
       clear n0_ n1_ n2_ n3_ n4_ n5_ n6_ n7_ n8_ n9_ n10_ n11_ n12_ n13_ n14_ hb
       skip
       skip
       skip
       refine hK.out _ _ ⟨(kC_ BK520.out 0).trans rfl,(kC_ BK520.out 1).trans rfl,(kC_ BK520.out 2).trans rfl,(kC_ BK520.out 3).trans rfl,(kC_ BK502.out 0).trans rfl,(kC_ BK502.out 1).trans rfl,(kC_ BK502.out 2).trans rfl,(kC_ BK502.out 3).trans rfl⟩ (fun hHeld=>?_)
       clear hK K
       refine norm_ (a':=?_) ?_ ?_
       rotate_left
       ·show Act.put _ (some 37) _ = _
        simp only [Act.put,sI_,sZ_,sS_,i64_w,i32_w]
        rfl
       refine pure_ (i:=8) (N:=some 38) (v:=?_) (a':=?_) (tb_ 9 16) rfl rfl (any_of HT_.out (by kernel_rfl)) (fun _ _ _ h=>h) (Or.inl ⟨by rfl,?_⟩) ?_ ?_
       rotate_left
       ·intro w'
        go_simp
        with_reducible rfl
       rotate_left
       ·simp only [Act.put,sI_,sZ_,sS_,i64_w,i32_w]
        rfl
       refine pure_ (i:=9) (N:=some 39) (v:=?_) (a':=?_) (tb_ 10 15) rfl rfl (any_of HT_.out (by kernel_rfl)) (fun _ _ _ h=>h) (Or.inl ⟨by rfl,?_⟩) ?_ ?_
       rotate_left
       ·intro w'
        go_simp
        with_reducible rfl
       rotate_left
       ·simp only [Act.put,sI_,sZ_,sS_,i64_w,i32_w]
        rfl
       refine pure_ (i:=12) (N:=some 42) (v:=?_) (a':=?_) #[true,true,true,true,true,true,true,true,true,true,false,false,true,false,false,false,false,false,false,false,false,false,false,false,false] rfl rfl (any_of HT_.out (by kernel_rfl)) (fun _ _ _ h=>h) (Or.inl ⟨by rfl,?_⟩) ?_ ?_
       rotate_left
       ·intro w'
        go_simp
        with_reducible rfl
       rotate_left
       ·simp only [Act.put,sI_,sZ_,sS_,i64_w,i32_w]
        rfl
       refine take_ (i:=10) (N:=some 40) (v:=?_) (a':=?_) #[true,true,true,true,true,true,true,true,true,true,true,false,true,false,false,false,false,false,false,false,false,false,false,false,false] rfl rfl (take_ofW HT_.out HW_.out (by kernel_rfl)) (fun _ _ _ h=>h) (Or.inl ⟨by rfl,?_⟩) hHeld ?_ ?_
       rotate_left
       ·rintro w' ⟨s0,s1,s2,s3,s4,s5,s6,s7⟩
        go_simp
        with_reducible rfl
       rotate_left
       ·simp only [Act.put,sI_,sZ_,sS_,i64_w,i32_w]
        rfl
       refine one_ (i:=11) (N:=some 41) (tb_ 13 12) rfl rfl (one_of HT_.out (by kernel_rfl)) (by decide) (fun K hK=>?_)
       refine goes_ Try.func15 (by kernel_rfl) rfl #[.agg #[.bool t509,.slice Ao23 t510.length co23,.slice Ao24 t513.length co24,.slice Ao25 t516.length co25]] (by rfl) rfl rfl (by (try simp only [mA_,mC_,mN_]);first | done | rfl | (simp only [lD_,lT_];rfl)) ?_
       with_reducible refine (impl_PutNode.calls k t509 _ _ t510 _ _ t513 _ _ t516 t534 _ ?side1 ?side2 ?side3 ?side4 ?side5 ?side6 A40.out).mono ?_
       (case side1=>repeat (first | exact (Kd.R_reads' HO512.out).2.2 | (with_reducible refine cA_ ?_ _) | (with_reducible refine cN_ ?_ _) | (with_reducible refine cD_ ?_)))
       (case side2=>exact (Kd.R_reads' HO512.out).2.1)
       (case side3=>repeat (first | exact (Kd.R_reads' HO515.out).2.2 | (with_reducible refine cA_ ?_ _) | (with_reducible refine cN_ ?_ _) | (with_reducible refine cD_ ?_)))
       (case side4=>exact (Kd.R_reads' HO515.out).2.1)
       (case side5=>repeat (first | exact (Kd.R_reads' HO518.out).2.2 | (with_reducible refine cA_ ?_ _) | (with_reducible refine cN_ ?_ _) | (with_reducible refine cD_ ?_)))
       (case side6=>exact (Kd.R_reads' HO518.out).2.1)
       rintro e w48 ⟨v535,rfl,ho0,hb⟩
       refine ⟨_,rfl,?_⟩
       have n0_:=aM_ (Kd.R_below (by exact rZ_ HO495) hb)
       have n1_:=aM_ (Kd.R_below (by exact rZ_ HO498) hb)
       have n2_:=aM_ (Kd.R_below (by exact rZ_ HO501) hb)
       have n3_:=aM_ (Kd.R_elder' (by exact rZ_ HO505) (Kd.R_base ho0) hb)
       have n4_:=aM_ (Kd.R_elder' (by exact rZ_ HO508) (Kd.R_base ho0) hb)
       have n5_:=aM_ (Kd.R_below (by exact rZ_ HO512) hb)
       have n6_:=aM_ (Kd.R_below (by exact rZ_ HO515) hb)
       have n7_:=aM_ (Kd.R_below (by exact rZ_ HO518) hb)
       have n8_:=aM_ (Kd.R_below (by exact rZ_ HO524) hb)
       have n9_:=aM_ (Kd.R_below (by exact rZ_ HO527) hb)
       have n10_:=aM_ (Kd.R_below (by exact rZ_ HO530) hb)
       have n11_:=aM_ (Kd.R_lower (Kd.R_new' (Kd.R_new' ho0 (Kd.R_lt (by exact rZ_ HO505))) (Kd.R_lt (by exact rZ_ HO508))) (bS_ (by exact bZ_ HB)))
       have n12_:=aM_ (blk_below (g:=gb502) (o:=.cells #[.bool t492,.slice Ao13 t493.length co13,.slice Ao14 t496.length co14,.slice Ao15 t499.length co15] 29 (0,0)) (by exact kZ_ BK502) hb)
       have n13_:=aM_ (blk_below (g:=gb520) (o:=.cells #[.bool t509,.slice Ao23 t510.length co23,.slice Ao24 t513.length co24,.slice Ao25 t516.length co25] 29 (0,0)) (by exact kZ_ BK520) hb)
       have n14_:=aM_ (blk_below (g:=gb532) (o:=.cells #[.bool t521,.slice Ao31 t522.length co31,.slice Ao32 t525.length co32,.slice Ao33 t528.length co33] 29 (0,0)) (by exact kZ_ BK532) hb)
       have n15_:=aM_ (bT_ (by exact bZ_ HB) hb)
       clear HO495 HO498 HO501 HO505 HO508 HO512 HO515 HO518 HO524 HO527 HO530 BK502 BK520 BK532 HB
       have HO495:=n0_
       have HO498:=n1_
       have HO501:=n2_
       have HO505:=n3_
       have HO508:=n4_
       have HO512:=n5_
       have HO515:=n6_
       have HO518:=n7_
       have HO524:=n8_
       have HO527:=n9_
       have HO530:=n10_
       have HO536:=n11_
       have BK502:=n12_
       have BK520:=n13_
       have BK532:=n14_
       have HB:=n15_
       clear n0_ n1_ n2_ n3_ n4_ n5_ n6_ n7_ n8_ n9_ n10_ n11_ n12_ n13_ n14_ n15_ hb
       skip
       skip
       skip
       clear ho0
       obtain ⟨Ao49,co49,eo49⟩:=Kd.R_slice HO536.out
       (first | subst eo49 | (injection eo49 with f1_ f2_ f3_;have f4_:=f1_.symm;have f5_:=f3_.symm;clear f1_ f2_ f3_;subst f4_;subst f5_))
       refine hK.out _ _ ⟨(kC_ BK520.out 0).trans rfl,(kC_ BK520.out 1).trans rfl,(kC_ BK520.out 2).trans rfl,(kC_ BK520.out 3).trans rfl,(kC_ BK502.out 0).trans rfl,(kC_ BK502.out 1).trans rfl,(kC_ BK502.out 2).trans rfl,(kC_ BK502.out 3).trans rfl⟩ (fun hHeld=>?_)
       clear hK K
       refine norm_ (a':=?_) ?_ ?_
       rotate_left
       ·show Act.put _ (some 41) _ = _
        simp only [Act.put,sI_,sZ_,sS_,i64_w,i32_w]
        rfl
       refine one_ (i:=13) (N:=some 43) (tb_ 14 11) rfl rfl (one_of HT_.out (by kernel_rfl)) (by decide) (fun K hK=>?_)
       refine goes_ Try.func29 (by kernel_rfl) rfl #[.slice Ao49 t534.length co49,.slice Ao18 t506.length co18] (by rfl) rfl rfl (by (try simp only [mA_,mC_,mN_]);first | done | rfl | (simp only [lD_,lT_];rfl)) ?_
       with_reducible refine (laws_sameBytes.calls k _ _ t534 _ _ t506 true _ ?side1 ?side2 ?side3 ?side4 A41.out).mono ?_
       (case side1=>repeat (first | exact (Kd.R_reads' HO536.out).2.2 | (with_reducible refine cA_ ?_ _) | (with_reducible refine cN_ ?_ _) | (with_reducible refine cD_ ?_)))
       (case side2=>exact (Kd.R_reads' HO536.out).2.1)
       (case side3=>repeat (first | exact (Kd.R_reads' HO508.out).2.2 | (with_reducible refine cA_ ?_ _) | (with_reducible refine cN_ ?_ _) | (with_reducible refine cD_ ?_)))
       (case side4=>exact (Kd.R_reads' HO508.out).2.1)
       rintro e w' ⟨rfl,⟨nd,rfl⟩⟩
       refine ⟨_,rfl,?_⟩
       refine hK.out _ _ ⟨(kC_ BK520.out 0).trans rfl,(kC_ BK520.out 1).trans rfl,(kC_ BK520.out 2).trans rfl,(kC_ BK520.out 3).trans rfl,(kC_ BK502.out 0).trans rfl,(kC_ BK502.out 1).trans rfl,(kC_ BK502.out 2).trans rfl,(kC_ BK502.out 3).trans rfl⟩ (fun hHeld=>?_)
       clear hK K
       refine norm_ (a':=?_) ?_ ?_
       rotate_left
       ·show Act.put _ (some 43) _ = _
        simp only [Act.put,sI_,sZ_,sS_,i64_w,i32_w]
        rfl
       refine pure_ (i:=14) (N:=some 44) (v:=?_) (a':=?_) (tb_ 15 10) rfl rfl (any_of HT_.out (by kernel_rfl)) (fun _ _ _ h=>h) (Or.inl ⟨by rfl,?_⟩) ?_ ?_
       rotate_left
       ·intro w'
        go_simp
        with_reducible rfl
       rotate_left
       ·simp only [Act.put,sI_,sZ_,sS_,i64_w,i32_w]
        rfl
       refine pure_ (i:=15) (N:=some 45) (v:=?_) (a':=?_) (tb_ 16 9) rfl rfl (any_of HT_.out (by kernel_rfl)) (fun _ _ _ h=>h) (Or.inl ⟨by rfl,?_⟩) ?_ ?_
       rotate_left
       ·intro w'
        go_simp
        with_reducible rfl
       rotate_left
       ·simp only [Act.put,sI_,sZ_,sS_,i64_w,i32_w]
        rfl
       refine pure_ (i:=16) (N:=some 46) (v:=?_) (a':=?_) (tb_ 17 8) rfl rfl (any_of HT_.out (by kernel_rfl)) (fun _ _ _ h=>h) (Or.inl ⟨by rfl,?_⟩) ?_ ?_
       rotate_left
       ·intro w'
        go_simp
        with_reducible rfl
       rotate_left
       ·simp only [Act.put,sI_,sZ_,sS_,i64_w,i32_w]
        rfl
       refine pure_ (i:=17) (N:=some 47) (v:=?_) (a':=?_) (tb_ 18 7) rfl rfl (any_of HT_.out (by kernel_rfl)) (fun _ _ _ h=>h) (Or.inl ⟨by rfl,?_⟩) ?_ ?_
       rotate_left
       ·intro w'
        go_simp
        with_reducible rfl
       rotate_left
       ·simp only [Act.put,sI_,sZ_,sS_,i64_w,i32_w]
        rfl
       refine pure_ (i:=18) (N:=some 48) (v:=?_) (a':=?_) (tb_ 19 6) rfl rfl (any_of HT_.out (by kernel_rfl)) (fun _ _ _ h=>h) (Or.inl ⟨by rfl,?_⟩) ?_ ?_
       rotate_left
       ·intro w'
        go_simp
        with_reducible rfl
       rotate_left
       ·simp only [Act.put,sI_,sZ_,sS_,i64_w,i32_w]
        rfl
       refine take_ (i:=19) (N:=some 49) (v:=?_) (a':=?_) (tb_ 20 5) rfl rfl (take_ofW HT_.out HW_.out (by kernel_rfl)) (fun _ _ _ h=>h) (Or.inl ⟨by rfl,?_⟩) hHeld ?_ ?_
       rotate_left
       ·rintro w' ⟨s0,s1,s2,s3,s4,s5,s6,s7⟩
        go_simp
        with_reducible rfl
       rotate_left
       ·simp only [Act.put,sI_,sZ_,sS_,i64_w,i32_w]
        rfl
       refine take_ (i:=21) (N:=some 51) (v:=?_) (a':=?_) #[true,true,true,true,true,true,true,true,true,true,true,true,true,true,true,true,true,true,true,true,false,true,false,false,false] rfl rfl (take_ofW HT_.out HW_.out (by kernel_rfl)) (fun _ _ _ h=>h) (Or.inl ⟨by rfl,?_⟩) hHeld ?_ ?_
       rotate_left
       ·rintro w' ⟨s0,s1,s2,s3,s4,s5,s6,s7⟩
        go_simp
        with_reducible rfl
       rotate_left
       ·simp only [Act.put,sI_,sZ_,sS_,i64_w,i32_w]
        rfl
       refine one_ (i:=20) (N:=some 50) (tb_ 22 3) rfl rfl (one_of HT_.out (by kernel_rfl)) (by decide) (fun K hK=>?_)
       refine goes_ Try.func30 (by kernel_rfl) rfl #[.agg #[.bool t492,.slice Ao13 t493.length co13,.slice Ao14 t496.length co14,.slice Ao15 t499.length co15]] (by rfl) rfl rfl (by (try simp only [mA_,mC_,mN_]);first | done | rfl | (simp only [lD_,lT_];rfl)) ?_
       with_reducible refine (impl_SizeOf.calls k t492 _ _ t493 _ _ t496 _ _ t499 t538 _ ?side1 ?side2 ?side3 ?side4 ?side5 ?side6 A43.out).mono ?_
       (case side1=>repeat (first | exact (Kd.R_reads' HO495.out).2.2 | (with_reducible refine cA_ ?_ _) | (with_reducible refine cN_ ?_ _) | (with_reducible refine cD_ ?_)))
       (case side2=>exact (Kd.R_reads' HO495.out).2.1)
       (case side3=>repeat (first | exact (Kd.R_reads' HO498.out).2.2 | (with_reducible refine cA_ ?_ _) | (with_reducible refine cN_ ?_ _) | (with_reducible refine cD_ ?_)))
       (case side4=>exact (Kd.R_reads' HO498.out).2.1)
       (case side5=>repeat (first | exact (Kd.R_reads' HO501.out).2.2 | (with_reducible refine cA_ ?_ _) | (with_reducible refine cN_ ?_ _) | (with_reducible refine cD_ ?_)))
       (case side6=>exact (Kd.R_reads' HO501.out).2.1)
       rintro e w50 ⟨rfl,hb⟩
       refine ⟨_,rfl,?_⟩
       have n0_:=aM_ (Kd.R_below (by exact rZ_ HO495) hb)
       have n1_:=aM_ (Kd.R_below (by exact rZ_ HO498) hb)
       have n2_:=aM_ (Kd.R_below (by exact rZ_ HO501) hb)
       have n3_:=aM_ (Kd.R_below (by exact rZ_ HO505) hb)
       have n4_:=aM_ (Kd.R_below (by exact rZ_ HO508) hb)
       have n5_:=aM_ (Kd.R_below (by exact rZ_ HO512) hb)
       have n6_:=aM_ (Kd.R_below (by exact rZ_ HO515) hb)
       have n7_:=aM_ (Kd.R_below (by exact rZ_ HO518) hb)
       have n8_:=aM_ (Kd.R_below (by exact rZ_ HO524) hb)
       have n9_:=aM_ (Kd.R_below (by exact rZ_ HO527) hb)
       have n10_:=aM_ (Kd.R_below (by exact rZ_ HO530) hb)
       have n11_:=aM_ (Kd.R_below (by exact rZ_ HO536) hb)
       have n12_:=aM_ (blk_below (g:=gb502) (o:=.cells #[.bool t492,.slice Ao13 t493.length co13,.slice Ao14 t496.length co14,.slice Ao15 t499.length co15] 29 (0,0)) (by exact kZ_ BK502) hb)
       have n13_:=aM_ (blk_below (g:=gb520) (o:=.cells #[.bool t509,.slice Ao23 t510.length co23,.slice Ao24 t513.length co24,.slice Ao25 t516.length co25] 29 (0,0)) (by exact kZ_ BK520) hb)
       have n14_:=aM_ (blk_below (g:=gb532) (o:=.cells #[.bool t521,.slice Ao31 t522.length co31,.slice Ao32 t525.length co32,.slice Ao33 t528.length co33] 29 (0,0)) (by exact kZ_ BK532) hb)
       have n15_:=aM_ (bT_ (by exact bZ_ HB) hb)
       clear HO495 HO498 HO501 HO505 HO508 HO512 HO515 HO518 HO524 HO527 HO530 HO536 BK502 BK520 BK532 HB
       have HO495:=n0_
       have HO498:=n1_
       have HO501:=n2_
       have HO505:=n3_
       have HO508:=n4_
       have HO512:=n5_
       have HO515:=n6_
       have HO518:=n7_
       have HO524:=n8_
       have HO527:=n9_
       have HO530:=n10_
       have HO536:=n11_
       have BK502:=n12_
       have BK520:=n13_
       have BK532:=n14_
       have HB:=n15_
       clear n0_ n1_ n2_ n3_ n4_ n5_ n6_ n7_ n8_ n9_ n10_ n11_ n12_ n13_ n14_ n15_ hb
       skip
       skip
       skip
       refine hK.out _ _ ⟨(kC_ BK520.out 0).trans rfl,(kC_ BK520.out 1).trans rfl,(kC_ BK520.out 2).trans rfl,(kC_ BK520.out 3).trans rfl,(kC_ BK502.out 0).trans rfl,(kC_ BK502.out 1).trans rfl,(kC_ BK502.out 2).trans rfl,(kC_ BK502.out 3).trans rfl⟩ (fun hHeld=>?_)
       clear hK K
       refine norm_ (a':=?_) ?_ ?_
       rotate_left
       ·show Act.put _ (some 50) _ = _
        simp only [Act.put,sI_,sZ_,sS_,i64_w,i32_w]
        rfl
       refine one_ (i:=22) (N:=some 52) (tb_ 23 2) rfl rfl (one_of HT_.out (by kernel_rfl)) (by decide) (fun K hK=>?_)
       refine goes_ Try.func31 (by kernel_rfl) rfl #[.agg #[.bool t492,.slice Ao13 t493.length co13,.slice Ao14 t496.length co14,.slice Ao15 t499.length co15]] (by rfl) rfl rfl (by (try simp only [mA_,mC_,mN_]);first | done | rfl | (simp only [lD_,lT_];rfl)) ?_
       with_reducible refine (spec_SizeOf.calls k t492 _ _ t493 _ _ t496 _ _ t499 t539 _ ?side1 ?side2 ?side3 ?side4 ?side5 ?side6 A44.out).mono ?_
       (case side1=>repeat (first | exact (Kd.R_reads' HO495.out).2.2 | (with_reducible refine cA_ ?_ _) | (with_reducible refine cN_ ?_ _) | (with_reducible refine cD_ ?_)))
       (case side2=>exact (Kd.R_reads' HO495.out).2.1)
       (case side3=>repeat (first | exact (Kd.R_reads' HO498.out).2.2 | (with_reducible refine cA_ ?_ _) | (with_reducible refine cN_ ?_ _) | (with_reducible refine cD_ ?_)))
       (case side4=>exact (Kd.R_reads' HO498.out).2.1)
       (case side5=>repeat (first | exact (Kd.R_reads' HO501.out).2.2 | (with_reducible refine cA_ ?_ _) | (with_reducible refine cN_ ?_ _) | (with_reducible refine cD_ ?_)))
       (case side6=>exact (Kd.R_reads' HO501.out).2.1)
       rintro e w51 ⟨rfl,hb⟩
       refine ⟨_,rfl,?_⟩
       have n0_:=aM_ (Kd.R_below (by exact rZ_ HO495) hb)
       have n1_:=aM_ (Kd.R_below (by exact rZ_ HO498) hb)
       have n2_:=aM_ (Kd.R_below (by exact rZ_ HO501) hb)
       have n3_:=aM_ (Kd.R_below (by exact rZ_ HO505) hb)
       have n4_:=aM_ (Kd.R_below (by exact rZ_ HO508) hb)
       have n5_:=aM_ (Kd.R_below (by exact rZ_ HO512) hb)
       have n6_:=aM_ (Kd.R_below (by exact rZ_ HO515) hb)
       have n7_:=aM_ (Kd.R_below (by exact rZ_ HO518) hb)
       have n8_:=aM_ (Kd.R_below (by exact rZ_ HO524) hb)
       have n9_:=aM_ (Kd.R_below (by exact rZ_ HO527) hb)
       have n10_:=aM_ (Kd.R_below (by exact rZ_ HO530) hb)
       have n11_:=aM_ (Kd.R_below (by exact rZ_ HO536) hb)
       have n12_:=aM_ (blk_below (g:=gb502) (o:=.cells #[.bool t492,.slice Ao13 t493.length co13,.slice Ao14 t496.length co14,.slice Ao15 t499.length co15] 29 (0,0)) (by exact kZ_ BK502) hb)
       have n13_:=aM_ (blk_below (g:=gb520) (o:=.cells #[.bool t509,.slice Ao23 t510.length co23,.slice Ao24 t513.length co24,.slice Ao25 t516.length co25] 29 (0,0)) (by exact kZ_ BK520) hb)
       have n14_:=aM_ (blk_below (g:=gb532) (o:=.cells #[.bool t521,.slice Ao31 t522.length co31,.slice Ao32 t525.length co32,.slice Ao33 t528.length co33] 29 (0,0)) (by exact kZ_ BK532) hb)
       have n15_:=aM_ (bT_ (by exact bZ_ HB) hb)
       clear HO495 HO498 HO501 HO505 HO508 HO512 HO515 HO518 HO524 HO527 HO530 HO536 BK502 BK520 BK532 HB
       have HO495:=n0_
       have HO498:=n1_
       have HO501:=n2_
       have HO505:=n3_
       have HO508:=n4_
       have HO512:=n5_
       have HO515:=n6_
       have HO518:=n7_
       have HO524:=n8_
       have HO527:=n9_
       have HO530:=n10_
       have HO536:=n11_
       have BK502:=n12_
       have BK520:=n13_
       have BK532:=n14_
       have HB:=n15_
       clear n0_ n1_ n2_ n3_ n4_ n5_ n6_ n7_ n8_ n9_ n10_ n11_ n12_ n13_ n14_ n15_ hb
       skip
       skip
       skip
       refine hK.out _ _ ⟨(kC_ BK520.out 0).trans rfl,(kC_ BK520.out 1).trans rfl,(kC_ BK520.out 2).trans rfl,(kC_ BK520.out 3).trans rfl,(kC_ BK502.out 0).trans rfl,(kC_ BK502.out 1).trans rfl,(kC_ BK502.out 2).trans rfl,(kC_ BK502.out 3).trans rfl⟩ (fun hHeld=>?_)
       clear hK K
       refine norm_ (a':=?_) ?_ ?_
       rotate_left
       ·show Act.put _ (some 52) _ = _
        simp only [Act.put,sI_,sZ_,sS_,i64_w,i32_w]
        rfl
       refine pure_ (i:=23) (N:=some 53) (v:=?_) (a':=?_) (tb_ 24 1) rfl rfl (any_of HT_.out (by kernel_rfl)) (fun _ _ _ h=>h) (Or.inl ⟨by rfl,?_⟩) ?_ ?_
       rotate_left
       ·intro w'
        go_simp
        with_reducible rfl
       rotate_left
       ·simp only [Act.put,sI_,sZ_,sS_,i64_w,i32_w]
        rfl
       refine pure_ (i:=24) (N:=some 54) (v:=?_) (a':=?_) (tb_ 25 0) rfl rfl (any_of HT_.out (by kernel_rfl)) (fun _ _ _ h=>h) (Or.inl ⟨by rfl,?_⟩) ?_ ?_
       rotate_left
       ·intro w'
        go_simp
        with_reducible rfl
       rotate_left
       ·simp only [Act.put,sI_,sZ_,sS_,i64_w,i32_w]
        rfl
       refine done_ (done_of HT_.out (by kernel_rfl)) ?_
       try go_wp2
       (first | go_meet | (refine Met.intro ?_;go_step;(repeat apply Exists.intro);refine ⟨?rel,?eq⟩;(case eq=>(try simp only [c29b0]);(try simp only [c34b0]);(try simp only [c34b0]);rfl)))
       case rel=>exact ⟨_,((t538 != t539)),(by first | rfl | (simp;done) | (simp [*];done)),H', ⟨by first | omega | exact Nat.le_refl _⟩,⟨by (with_reducible repeat (first | apply rA_ | apply rN_ | apply rD_));exact Kd.R_mono HO505.out (fun _ hk=>trivial)⟩,⟨by exact rZ_ HO495⟩,⟨by exact rZ_ HO498⟩,⟨by exact rZ_ HO501⟩,⟨by exact rZ_ HO512⟩,⟨by exact rZ_ HO515⟩,⟨by exact rZ_ HO518⟩,⟨by exact rZ_ HO524⟩,⟨by exact rZ_ HO527⟩,⟨by exact rZ_ HO530⟩,⟨by exact kZ_ BK502⟩,⟨by exact kZ_ BK520⟩,⟨by exact kZ_ BK532⟩,⟨by exact bZ_ HB⟩⟩
      ·replace c42:=Bool.eq_false_iff.mpr c42
       subst c42
       have H1 : (laws_FnNodes.j0 k t503 true t492 t493 t496 t499) = some r:=by rw [if_neg (show ¬ (false = true) by decide)] at H;exact H
       clear H
       have H:=H1
       clear H1
       have H':=aM_ H
       clear H
       try go_wp2
       have n0_ : Aside0 (Kd.R Kd.string 9 ((((w27.setCell ⟨gb532,0,none⟩ (.bool t521)).setCell ⟨gb532,1,none⟩ (.slice Ao31 t522.length co31)).setCell ⟨gb532,2,none⟩ (.slice Ao32 t525.length co32)).setCell ⟨gb532,3,none⟩ (.slice Ao33 t528.length co33)) w.heap.size (fun k_=>some k_ ≠ (.slice Ao14 t496.length co14 : Value).ownBlock ∧ some k_ ≠ (.slice Ao23 t510.length co23 : Value).ownBlock ∧ some k_ ≠ (.slice Ao24 t513.length co24 : Value).ownBlock ∧ some k_ ≠ (.slice Ao31 t522.length co31 : Value).ownBlock ∧ some k_ ≠ (.slice Ao32 t525.length co32 : Value).ownBlock) (.slice Ao13 t493.length co13) t493):=⟨by (with_reducible repeat (first | apply rA_ | apply rN_ | apply rD_));exact Kd.R_mono (Kd.R_far (p:=⟨gb532,3,none⟩) (Kd.R_far (p:=⟨gb532,2,none⟩) (Kd.R_far (p:=⟨gb532,1,none⟩) (Kd.R_far (p:=⟨gb532,0,none⟩) (Kd.R_types HO495.out BK532.out (by decide)) (fun _ hk=>hk.2) (.bool t521)) (fun _ hk=>hk.2) (.slice Ao31 t522.length co31)) (fun _ hk=>hk.2) (.slice Ao32 t525.length co32)) (fun _ hk=>hk.2) (.slice Ao33 t528.length co33)) (fun _ hk=>⟨hk.1.1.1.1.1,⟨hk.1.1.1.1.2,⟨hk.1.1.1.2,⟨hk.1.1.2,hk.1.2⟩⟩⟩⟩)⟩
       have n1_ : Aside0 (Kd.R Kd.string 9 ((((w27.setCell ⟨gb532,0,none⟩ (.bool t521)).setCell ⟨gb532,1,none⟩ (.slice Ao31 t522.length co31)).setCell ⟨gb532,2,none⟩ (.slice Ao32 t525.length co32)).setCell ⟨gb532,3,none⟩ (.slice Ao33 t528.length co33)) w.heap.size (fun k_=>some k_ ≠ (.slice Ao13 t493.length co13 : Value).ownBlock ∧ some k_ ≠ (.slice Ao23 t510.length co23 : Value).ownBlock ∧ some k_ ≠ (.slice Ao24 t513.length co24 : Value).ownBlock ∧ some k_ ≠ (.slice Ao31 t522.length co31 : Value).ownBlock ∧ some k_ ≠ (.slice Ao32 t525.length co32 : Value).ownBlock) (.slice Ao14 t496.length co14) t496):=⟨by (with_reducible repeat (first | apply rA_ | apply rN_ | apply rD_));exact Kd.R_mono (Kd.R_far (p:=⟨gb532,3,none⟩) (Kd.R_far (p:=⟨gb532,2,none⟩) (Kd.R_far (p:=⟨gb532,1,none⟩) (Kd.R_far (p:=⟨gb532,0,none⟩) (Kd.R_types HO498.out BK532.out (by decide)) (fun _ hk=>hk.2) (.bool t521)) (fun _ hk=>hk.2) (.slice Ao31 t522.length co31)) (fun _ hk=>hk.2) (.slice Ao32 t525.length co32)) (fun _ hk=>hk.2) (.slice Ao33 t528.length co33)) (fun _ hk=>⟨hk.1.1.1.1.1,⟨hk.1.1.1.1.2,⟨hk.1.1.1.2,⟨hk.1.1.2,hk.1.2⟩⟩⟩⟩)⟩
       have n2_ : Aside0 (Kd.R (Kd.int .i64) 3 ((((w27.setCell ⟨gb532,0,none⟩ (.bool t521)).setCell ⟨gb532,1,none⟩ (.slice Ao31 t522.length co31)).setCell ⟨gb532,2,none⟩ (.slice Ao32 t525.length co32)).setCell ⟨gb532,3,none⟩ (.slice Ao33 t528.length co33)) w.heap.size (fun k_=>some k_ ≠ (.slice Ao25 t516.length co25 : Value).ownBlock ∧ some k_ ≠ (.slice Ao33 t528.length co33 : Value).ownBlock) (.slice Ao15 t499.length co15) t499):=⟨by (with_reducible repeat (first | apply rA_ | apply rN_ | apply rD_));exact Kd.R_mono (Kd.R_far (p:=⟨gb532,3,none⟩) (Kd.R_far (p:=⟨gb532,2,none⟩) (Kd.R_far (p:=⟨gb532,1,none⟩) (Kd.R_far (p:=⟨gb532,0,none⟩) (Kd.R_types HO501.out BK532.out (by decide)) (fun _ hk=>hk.2) (.bool t521)) (fun _ hk=>hk.2) (.slice Ao31 t522.length co31)) (fun _ hk=>hk.2) (.slice Ao32 t525.length co32)) (fun _ hk=>hk.2) (.slice Ao33 t528.length co33)) (fun _ hk=>⟨hk.1.1.2,hk.1.2⟩)⟩
       have n3_ : Aside0 (Kd.R (Kd.int .u8) 5 ((((w27.setCell ⟨gb532,0,none⟩ (.bool t521)).setCell ⟨gb532,1,none⟩ (.slice Ao31 t522.length co31)).setCell ⟨gb532,2,none⟩ (.slice Ao32 t525.length co32)).setCell ⟨gb532,3,none⟩ (.slice Ao33 t528.length co33)) w.heap.size (fun k_=>some k_ ≠ (.slice Ao18 t506.length co18 : Value).ownBlock) v504 t503):=⟨by (with_reducible repeat (first | apply rA_ | apply rN_ | apply rD_));exact Kd.R_mono (Kd.R_far (p:=⟨gb532,3,none⟩) (Kd.R_far (p:=⟨gb532,2,none⟩) (Kd.R_far (p:=⟨gb532,1,none⟩) (Kd.R_far (p:=⟨gb532,0,none⟩) (Kd.R_types HO505.out BK532.out (by decide)) (fun _ hk=>hk.2) (.bool t521)) (fun _ hk=>hk.2) (.slice Ao31 t522.length co31)) (fun _ hk=>hk.2) (.slice Ao32 t525.length co32)) (fun _ hk=>hk.2) (.slice Ao33 t528.length co33)) (fun _ hk=>hk.1.2)⟩
       have n4_ : Aside0 (Kd.R (Kd.int .u8) 5 ((((w27.setCell ⟨gb532,0,none⟩ (.bool t521)).setCell ⟨gb532,1,none⟩ (.slice Ao31 t522.length co31)).setCell ⟨gb532,2,none⟩ (.slice Ao32 t525.length co32)).setCell ⟨gb532,3,none⟩ (.slice Ao33 t528.length co33)) w.heap.size (fun k_=>some k_ ≠ (v504 : Value).ownBlock) (.slice Ao18 t506.length co18) t506):=⟨by (with_reducible repeat (first | apply rA_ | apply rN_ | apply rD_));exact Kd.R_mono (Kd.R_far (p:=⟨gb532,3,none⟩) (Kd.R_far (p:=⟨gb532,2,none⟩) (Kd.R_far (p:=⟨gb532,1,none⟩) (Kd.R_far (p:=⟨gb532,0,none⟩) (Kd.R_types HO508.out BK532.out (by decide)) (fun _ hk=>hk.2) (.bool t521)) (fun _ hk=>hk.2) (.slice Ao31 t522.length co31)) (fun _ hk=>hk.2) (.slice Ao32 t525.length co32)) (fun _ hk=>hk.2) (.slice Ao33 t528.length co33)) (fun _ hk=>hk.1.2)⟩
       have n5_ : Aside0 (Kd.R Kd.string 9 ((((w27.setCell ⟨gb532,0,none⟩ (.bool t521)).setCell ⟨gb532,1,none⟩ (.slice Ao31 t522.length co31)).setCell ⟨gb532,2,none⟩ (.slice Ao32 t525.length co32)).setCell ⟨gb532,3,none⟩ (.slice Ao33 t528.length co33)) w.heap.size (fun k_=>some k_ ≠ (.slice Ao13 t493.length co13 : Value).ownBlock ∧ some k_ ≠ (.slice Ao14 t496.length co14 : Value).ownBlock ∧ some k_ ≠ (.slice Ao24 t513.length co24 : Value).ownBlock ∧ some k_ ≠ (.slice Ao31 t522.length co31 : Value).ownBlock ∧ some k_ ≠ (.slice Ao32 t525.length co32 : Value).ownBlock) (.slice Ao23 t510.length co23) t510):=⟨by (with_reducible repeat (first | apply rA_ | apply rN_ | apply rD_));exact Kd.R_mono (Kd.R_far (p:=⟨gb532,3,none⟩) (Kd.R_far (p:=⟨gb532,2,none⟩) (Kd.R_far (p:=⟨gb532,1,none⟩) (Kd.R_far (p:=⟨gb532,0,none⟩) (Kd.R_types HO512.out BK532.out (by decide)) (fun _ hk=>hk.2) (.bool t521)) (fun _ hk=>hk.2) (.slice Ao31 t522.length co31)) (fun _ hk=>hk.2) (.slice Ao32 t525.length co32)) (fun _ hk=>hk.2) (.slice Ao33 t528.length co33)) (fun _ hk=>⟨hk.1.1.1.1.2,⟨hk.1.1.1.2,⟨hk.1.1.1.1.1,⟨hk.1.1.2,hk.1.2⟩⟩⟩⟩)⟩
       have n6_ : Aside0 (Kd.R Kd.string 9 ((((w27.setCell ⟨gb532,0,none⟩ (.bool t521)).setCell ⟨gb532,1,none⟩ (.slice Ao31 t522.length co31)).setCell ⟨gb532,2,none⟩ (.slice Ao32 t525.length co32)).setCell ⟨gb532,3,none⟩ (.slice Ao33 t528.length co33)) w.heap.size (fun k_=>some k_ ≠ (.slice Ao13 t493.length co13 : Value).ownBlock ∧ some k_ ≠ (.slice Ao14 t496.length co14 : Value).ownBlock ∧ some k_ ≠ (.slice Ao23 t510.length co23 : Value).ownBlock ∧ some k_ ≠ (.slice Ao31 t522.length co31 : Value).ownBlock ∧ some k_ ≠ (.slice Ao32 t525.length co32 : Value).ownBlock) (.slice Ao24 t513.length co24) t513):=⟨by (with_reducible repeat (first | apply rA_ | apply rN_ | apply rD_));exact Kd.R_mono (Kd.R_far (p:=⟨gb532,3,none⟩) (Kd.R_far (p:=⟨gb532,2,none⟩) (Kd.R_far (p:=⟨gb532,1,none⟩) (Kd.R_far (p:=⟨gb532,0,none⟩) (Kd.R_types HO515.out BK532.out (by decide)) (fun _ hk=>hk.2) (.bool t521)) (fun _ hk=>hk.2) (.slice Ao31 t522.length co31)) (fun _ hk=>hk.2) (.slice Ao32 t525.length co32)) (fun _ hk=>hk.2) (.slice Ao33 t528.length co33)) (fun _ hk=>⟨hk.1.1.1.1.2,⟨hk.1.1.1.2,⟨hk.1.1.1.1.1,⟨hk.1.1.2,hk.1.2⟩⟩⟩⟩)⟩
       have n7_ : Aside0 (Kd.R (Kd.int .i64) 3 ((((w27.setCell ⟨gb532,0,none⟩ (.bool t521)).setCell ⟨gb532,1,none⟩ (.slice Ao31 t522.length co31)).setCell ⟨gb532,2,none⟩ (.slice Ao32 t525.length co32)).setCell ⟨gb532,3,none⟩ (.slice Ao33 t528.length co33)) w.heap.size (fun k_=>some k_ ≠ (.slice Ao15 t499.length co15 : Value).ownBlock ∧ some k_ ≠ (.slice Ao33 t528.length co33 : Value).ownBlock) (.slice Ao25 t516.length co25) t516):=⟨by (with_reducible repeat (first | apply rA_ | apply rN_ | apply rD_));exact Kd.R_mono (Kd.R_far (p:=⟨gb532,3,none⟩) (Kd.R_far (p:=⟨gb532,2,none⟩) (Kd.R_far (p:=⟨gb532,1,none⟩) (Kd.R_far (p:=⟨gb532,0,none⟩) (Kd.R_types HO518.out BK532.out (by decide)) (fun _ hk=>hk.2) (.bool t521)) (fun _ hk=>hk.2) (.slice Ao31 t522.length co31)) (fun _ hk=>hk.2) (.slice Ao32 t525.length co32)) (fun _ hk=>hk.2) (.slice Ao33 t528.length co33)) (fun _ hk=>⟨hk.1.1.2,hk.1.2⟩)⟩
       have n8_ : Aside0 (Kd.R Kd.string 9 ((((w27.setCell ⟨gb532,0,none⟩ (.bool t521)).setCell ⟨gb532,1,none⟩ (.slice Ao31 t522.length co31)).setCell ⟨gb532,2,none⟩ (.slice Ao32 t525.length co32)).setCell ⟨gb532,3,none⟩ (.slice Ao33 t528.length co33)) w.heap.size (fun k_=>some k_ ≠ (.slice Ao13 t493.length co13 : Value).ownBlock ∧ some k_ ≠ (.slice Ao14 t496.length co14 : Value).ownBlock ∧ some k_ ≠ (.slice Ao23 t510.length co23 : Value).ownBlock ∧ some k_ ≠ (.slice Ao24 t513.length co24 : Value).ownBlock ∧ some k_ ≠ (.slice Ao32 t525.length co32 : Value).ownBlock) (.slice Ao31 t522.length co31) t522):=⟨by (with_reducible repeat (first | apply rA_ | apply rN_ | apply rD_));exact Kd.R_mono (Kd.R_far (p:=⟨gb532,3,none⟩) (Kd.R_far (p:=⟨gb532,2,none⟩) (Kd.R_far (p:=⟨gb532,1,none⟩) (Kd.R_far (p:=⟨gb532,0,none⟩) (Kd.R_types HO524.out BK532.out (by decide)) (fun _ hk=>hk.2) (.bool t521)) (fun _ hk=>hk.2) (.slice Ao31 t522.length co31)) (fun _ hk=>hk.2) (.slice Ao32 t525.length co32)) (fun _ hk=>hk.2) (.slice Ao33 t528.length co33)) (fun _ hk=>⟨hk.1.1.1.1.2,⟨hk.1.1.1.2,⟨hk.1.1.2,⟨hk.1.2,hk.1.1.1.1.1⟩⟩⟩⟩)⟩
       have n9_ : Aside0 (Kd.R Kd.string 9 ((((w27.setCell ⟨gb532,0,none⟩ (.bool t521)).setCell ⟨gb532,1,none⟩ (.slice Ao31 t522.length co31)).setCell ⟨gb532,2,none⟩ (.slice Ao32 t525.length co32)).setCell ⟨gb532,3,none⟩ (.slice Ao33 t528.length co33)) w.heap.size (fun k_=>some k_ ≠ (.slice Ao13 t493.length co13 : Value).ownBlock ∧ some k_ ≠ (.slice Ao14 t496.length co14 : Value).ownBlock ∧ some k_ ≠ (.slice Ao23 t510.length co23 : Value).ownBlock ∧ some k_ ≠ (.slice Ao24 t513.length co24 : Value).ownBlock ∧ some k_ ≠ (.slice Ao31 t522.length co31 : Value).ownBlock) (.slice Ao32 t525.length co32) t525):=⟨by (with_reducible repeat (first | apply rA_ | apply rN_ | apply rD_));exact Kd.R_mono (Kd.R_far (p:=⟨gb532,3,none⟩) (Kd.R_far (p:=⟨gb532,2,none⟩) (Kd.R_far (p:=⟨gb532,1,none⟩) (Kd.R_far (p:=⟨gb532,0,none⟩) (Kd.R_types HO527.out BK532.out (by decide)) (fun _ hk=>hk.2) (.bool t521)) (fun _ hk=>hk.2) (.slice Ao31 t522.length co31)) (fun _ hk=>hk.2) (.slice Ao32 t525.length co32)) (fun _ hk=>hk.2) (.slice Ao33 t528.length co33)) (fun _ hk=>⟨hk.1.1.1.1.2,⟨hk.1.1.1.2,⟨hk.1.1.2,⟨hk.1.2,hk.1.1.1.1.1⟩⟩⟩⟩)⟩
       have n10_ : Aside0 (Kd.R (Kd.int .i64) 3 ((((w27.setCell ⟨gb532,0,none⟩ (.bool t521)).setCell ⟨gb532,1,none⟩ (.slice Ao31 t522.length co31)).setCell ⟨gb532,2,none⟩ (.slice Ao32 t525.length co32)).setCell ⟨gb532,3,none⟩ (.slice Ao33 t528.length co33)) w.heap.size (fun k_=>some k_ ≠ (.slice Ao15 t499.length co15 : Value).ownBlock ∧ some k_ ≠ (.slice Ao25 t516.length co25 : Value).ownBlock) (.slice Ao33 t528.length co33) t528):=⟨by (with_reducible repeat (first | apply rA_ | apply rN_ | apply rD_));exact Kd.R_mono (Kd.R_far (p:=⟨gb532,3,none⟩) (Kd.R_far (p:=⟨gb532,2,none⟩) (Kd.R_far (p:=⟨gb532,1,none⟩) (Kd.R_far (p:=⟨gb532,0,none⟩) (Kd.R_types HO530.out BK532.out (by decide)) (fun _ hk=>hk.2) (.bool t521)) (fun _ hk=>hk.2) (.slice Ao31 t522.length co31)) (fun _ hk=>hk.2) (.slice Ao32 t525.length co32)) (fun _ hk=>hk.2) (.slice Ao33 t528.length co33)) (fun _ hk=>⟨hk.1.1.2,hk.1.2⟩)⟩
       have n11_ : Aside0 (((((w27.setCell ⟨gb532,0,none⟩ (.bool t521)).setCell ⟨gb532,1,none⟩ (.slice Ao31 t522.length co31)).setCell ⟨gb532,2,none⟩ (.slice Ao32 t525.length co32)).setCell ⟨gb532,3,none⟩ (.slice Ao33 t528.length co33)).heap[gb502]? = some (.cells #[.bool t492,.slice Ao13 t493.length co13,.slice Ao14 t496.length co14,.slice Ao15 t499.length co15] 29 (0,0))):=⟨by exact kW_ BK502⟩
       have n12_ : Aside0 (((((w27.setCell ⟨gb532,0,none⟩ (.bool t521)).setCell ⟨gb532,1,none⟩ (.slice Ao31 t522.length co31)).setCell ⟨gb532,2,none⟩ (.slice Ao32 t525.length co32)).setCell ⟨gb532,3,none⟩ (.slice Ao33 t528.length co33)).heap[gb520]? = some (.cells #[.bool t509,.slice Ao23 t510.length co23,.slice Ao24 t513.length co24,.slice Ao25 t516.length co25] 29 (0,0))):=⟨by exact kW_ BK520⟩
       have n13_ : Aside0 (((((w27.setCell ⟨gb532,0,none⟩ (.bool t521)).setCell ⟨gb532,1,none⟩ (.slice Ao31 t522.length co31)).setCell ⟨gb532,2,none⟩ (.slice Ao32 t525.length co32)).setCell ⟨gb532,3,none⟩ (.slice Ao33 t528.length co33)).heap[gb532]? = some (.cells #[.bool t521,.slice Ao31 t522.length co31,.slice Ao32 t525.length co32,.slice Ao33 t528.length co33] 29 (0,0))):=⟨by (with_reducible repeat (first | refine kN_ ?_ _ | refine kD_ ?_ | refine kA_ ?_ _));refine kP_ (cs:=#[.bool t521,.slice Ao31 t522.length co31,.slice Ao32 t525.length co32,.slice none 0 0]) ?_ 3 _ rfl;(with_reducible repeat (first | refine kN_ ?_ _ | refine kD_ ?_ | refine kA_ ?_ _));refine kP_ (cs:=#[.bool t521,.slice Ao31 t522.length co31,.slice none 0 0,.slice none 0 0]) ?_ 2 _ rfl;(with_reducible repeat (first | refine kN_ ?_ _ | refine kD_ ?_ | refine kA_ ?_ _));refine kP_ (cs:=#[.bool t521,.slice none 0 0,.slice none 0 0,.slice none 0 0]) ?_ 1 _ rfl;(with_reducible repeat (first | refine kN_ ?_ _ | refine kD_ ?_ | refine kA_ ?_ _));refine kP_ (cs:=#[.bool false,.slice none 0 0,.slice none 0 0,.slice none 0 0]) ?_ 0 _ rfl;exact kZ_ BK532⟩
       have n14_ : Aside0 (Below w.heap.size w ((((w27.setCell ⟨gb532,0,none⟩ (.bool t521)).setCell ⟨gb532,1,none⟩ (.slice Ao31 t522.length co31)).setCell ⟨gb532,2,none⟩ (.slice Ao32 t525.length co32)).setCell ⟨gb532,3,none⟩ (.slice Ao33 t528.length co33))):=⟨by exact bZ_ HB⟩
       clear HO495 HO498 HO501 HO505 HO508 HO512 HO515 HO518 HO524 HO527 HO530 BK502 BK520 BK532 HB
       generalize ((((w27.setCell ⟨gb532,0,none⟩ (.bool t521)).setCell ⟨gb532,1,none⟩ (.slice Ao31 t522.length co31)).setCell ⟨gb532,2,none⟩ (.slice Ao32 t525.length co32)).setCell ⟨gb532,3,none⟩ (.slice Ao33 t528.length co33)) = w52 at n0_ n1_ n2_ n3_ n4_ n5_ n6_ n7_ n8_ n9_ n10_ n11_ n12_ n13_ n14_ ⊢
       have HO495:=n0_
       have HO498:=n1_
       have HO501:=n2_
       have HO505:=n3_
       have HO508:=n4_
       have HO512:=n5_
       have HO515:=n6_
       have HO518:=n7_
       have HO524:=n8_
       have HO527:=n9_
       have HO530:=n10_
       have BK502:=n11_
       have BK520:=n12_
       have BK532:=n13_
       have HB:=n14_
       clear n0_ n1_ n2_ n3_ n4_ n5_ n6_ n7_ n8_ n9_ n10_ n11_ n12_ n13_ n14_
       have n0_:=aM_ (rD_ HO495.out)
       have n1_:=aM_ (rD_ HO498.out)
       have n2_:=aM_ (rD_ HO501.out)
       have n3_:=aM_ (rD_ HO505.out)
       have n4_:=aM_ (rD_ HO508.out)
       have n5_:=aM_ (rD_ HO512.out)
       have n6_:=aM_ (rD_ HO515.out)
       have n7_:=aM_ (rD_ HO518.out)
       have n8_:=aM_ (rD_ HO524.out)
       have n9_:=aM_ (rD_ HO527.out)
       have n10_:=aM_ (rD_ HO530.out)
       have n11_:=aM_ (kD_ BK502.out)
       have n12_:=aM_ (kD_ BK520.out)
       have n13_:=aM_ (kD_ BK532.out)
       have n14_:=aM_ (bD_ HB.out)
       clear HO495 HO498 HO501 HO505 HO508 HO512 HO515 HO518 HO524 HO527 HO530 BK502 BK520 BK532 HB
       have HO495:=n0_
       have HO498:=n1_
       have HO501:=n2_
       have HO505:=n3_
       have HO508:=n4_
       have HO512:=n5_
       have HO515:=n6_
       have HO518:=n7_
       have HO524:=n8_
       have HO527:=n9_
       have HO530:=n10_
       have BK502:=n11_
       have BK520:=n12_
       have BK532:=n13_
       have HB:=n14_
       clear n0_ n1_ n2_ n3_ n4_ n5_ n6_ n7_ n8_ n9_ n10_ n11_ n12_ n13_ n14_
       refine start_ (n:=25) (S:=fun w'=>w'.cell? ⟨gb520,0,none⟩ = some (.bool t509) ∧ w'.cell? ⟨gb520,1,none⟩ = some (.slice Ao23 t510.length co23) ∧ w'.cell? ⟨gb520,2,none⟩ = some (.slice Ao24 t513.length co24) ∧ w'.cell? ⟨gb520,3,none⟩ = some (.slice Ao25 t516.length co25)) (ds:=[]) (tb_ 0 25) (by kernel_rfl) rfl rfl ⟨(kC_ BK520.out 0).trans rfl,(kC_ BK520.out 1).trans rfl,(kC_ BK520.out 2).trans rfl,(kC_ BK520.out 3).trans rfl⟩ (fun hHeld=>?_);refine with_tabW laws_FnNodes.tab8 laws_FnNodes.bits8 (fun HT_ HW_=>?_)
       generalize w52.drew = w53 at HO495 HO498 HO501 HO505 HO508 HO512 HO515 HO518 HO524 HO527 HO530 BK502 BK520 BK532 HB hHeld ⊢
       refine pure_ (i:=0) (N:=some 30) (v:=?_) (a':=?_) (tb_ 1 24) rfl rfl (any_of HT_.out (by kernel_rfl)) (fun _ _ _ h=>h) (Or.inl ⟨by rfl,?_⟩) ?_ ?_
       rotate_left
       ·intro w'
        go_simp
        with_reducible rfl
       rotate_left
       ·simp only [Act.put,sI_,sZ_,sS_,i64_w,i32_w]
        rfl
       refine pure_ (i:=1) (N:=some 31) (v:=?_) (a':=?_) (tb_ 2 23) rfl rfl (any_of HT_.out (by kernel_rfl)) (fun _ _ _ h=>h) (Or.inl ⟨by rfl,?_⟩) ?_ ?_
       rotate_left
       ·intro w'
        go_simp
        with_reducible rfl
       rotate_left
       ·simp only [Act.put,sI_,sZ_,sS_,i64_w,i32_w]
        rfl
       refine pure_ (i:=2) (N:=some 32) (v:=?_) (a':=?_) (tb_ 3 22) rfl rfl (any_of HT_.out (by kernel_rfl)) (fun _ _ _ h=>h) (Or.inl ⟨by rfl,?_⟩) ?_ ?_
       rotate_left
       ·intro w'
        go_simp
        with_reducible rfl
       rotate_left
       ·simp only [Act.put,sI_,sZ_,sS_,i64_w,i32_w]
        rfl
       refine pure_ (i:=3) (N:=some 33) (v:=?_) (a':=?_) (tb_ 4 21) rfl rfl (any_of HT_.out (by kernel_rfl)) (fun _ _ _ h=>h) (Or.inl ⟨by rfl,?_⟩) ?_ ?_
       rotate_left
       ·intro w'
        go_simp
        with_reducible rfl
       rotate_left
       ·simp only [Act.put,sI_,sZ_,sS_,i64_w,i32_w]
        rfl
       refine pure_ (i:=4) (N:=some 34) (v:=?_) (a':=?_) (tb_ 5 20) rfl rfl (any_of HT_.out (by kernel_rfl)) (fun _ _ _ h=>h) (Or.inl ⟨by rfl,?_⟩) ?_ ?_
       rotate_left
       ·intro w'
        go_simp
        with_reducible rfl
       rotate_left
       ·simp only [Act.put,sI_,sZ_,sS_,i64_w,i32_w]
        rfl
       refine pure_ (i:=5) (N:=some 35) (v:=?_) (a':=?_) (tb_ 6 19) rfl rfl (any_of HT_.out (by kernel_rfl)) (fun _ _ _ h=>h) (Or.inl ⟨by rfl,?_⟩) ?_ ?_
       rotate_left
       ·intro w'
        go_simp
        with_reducible rfl
       rotate_left
       ·simp only [Act.put,sI_,sZ_,sS_,i64_w,i32_w]
        rfl
       refine take_ (i:=6) (N:=some 36) (v:=?_) (a':=?_) (tb_ 7 18) rfl rfl (take_ofW HT_.out HW_.out (by kernel_rfl)) (fun _ _ _ h=>h) (Or.inl ⟨by rfl,?_⟩) hHeld ?_ ?_
       rotate_left
       ·rintro w' ⟨s0,s1,s2,s3⟩
        go_simp
        with_reducible rfl
       rotate_left
       ·simp only [Act.put,sI_,sZ_,sS_,i64_w,i32_w]
        rfl
       refine one_ (i:=7) (N:=some 37) (tb_ 8 17) rfl rfl (one_of HT_.out (by kernel_rfl)) (by decide) (fun K hK=>?_)
       refine goes_ Try.func28 (by kernel_rfl) rfl #[.agg #[.bool t509,.slice Ao23 t510.length co23,.slice Ao24 t513.length co24,.slice Ao25 t516.length co25]] (by rfl) rfl rfl (by (try simp only [mA_,mC_,mN_]);first | done | rfl | (simp only [lD_,lT_];rfl)) ?_
       with_reducible refine (impl_NodeOk.calls k t509 _ _ t510 _ _ t513 _ _ t516 true _ ?side1 ?side2 ?side3 ?side4 ?side5 ?side6 A38.out).mono ?_
       (case side1=>repeat (first | exact (Kd.R_reads' HO512.out).2.2 | (with_reducible refine cA_ ?_ _) | (with_reducible refine cN_ ?_ _) | (with_reducible refine cD_ ?_)))
       (case side2=>exact (Kd.R_reads' HO512.out).2.1)
       (case side3=>repeat (first | exact (Kd.R_reads' HO515.out).2.2 | (with_reducible refine cA_ ?_ _) | (with_reducible refine cN_ ?_ _) | (with_reducible refine cD_ ?_)))
       (case side4=>exact (Kd.R_reads' HO515.out).2.1)
       (case side5=>repeat (first | exact (Kd.R_reads' HO518.out).2.2 | (with_reducible refine cA_ ?_ _) | (with_reducible refine cN_ ?_ _) | (with_reducible refine cD_ ?_)))
       (case side6=>exact (Kd.R_reads' HO518.out).2.1)
       rintro e w54 ⟨rfl,hb⟩
       refine ⟨_,rfl,?_⟩
       have n0_:=aM_ (Kd.R_below (by exact rZ_ HO495) hb)
       have n1_:=aM_ (Kd.R_below (by exact rZ_ HO498) hb)
       have n2_:=aM_ (Kd.R_below (by exact rZ_ HO501) hb)
       have n3_:=aM_ (Kd.R_below (by exact rZ_ HO505) hb)
       have n4_:=aM_ (Kd.R_below (by exact rZ_ HO508) hb)
       have n5_:=aM_ (Kd.R_below (by exact rZ_ HO512) hb)
       have n6_:=aM_ (Kd.R_below (by exact rZ_ HO515) hb)
       have n7_:=aM_ (Kd.R_below (by exact rZ_ HO518) hb)
       have n8_:=aM_ (Kd.R_below (by exact rZ_ HO524) hb)
       have n9_:=aM_ (Kd.R_below (by exact rZ_ HO527) hb)
       have n10_:=aM_ (Kd.R_below (by exact rZ_ HO530) hb)
       have n11_:=aM_ (blk_below (g:=gb502) (o:=.cells #[.bool t492,.slice Ao13 t493.length co13,.slice Ao14 t496.length co14,.slice Ao15 t499.length co15] 29 (0,0)) (by exact kZ_ BK502) hb)
       have n12_:=aM_ (blk_below (g:=gb520) (o:=.cells #[.bool t509,.slice Ao23 t510.length co23,.slice Ao24 t513.length co24,.slice Ao25 t516.length co25] 29 (0,0)) (by exact kZ_ BK520) hb)
       have n13_:=aM_ (blk_below (g:=gb532) (o:=.cells #[.bool t521,.slice Ao31 t522.length co31,.slice Ao32 t525.length co32,.slice Ao33 t528.length co33] 29 (0,0)) (by exact kZ_ BK532) hb)
       have n14_:=aM_ (bT_ (by exact bZ_ HB) hb)
       clear HO495 HO498 HO501 HO505 HO508 HO512 HO515 HO518 HO524 HO527 HO530 BK502 BK520 BK532 HB
       have HO495:=n0_
       have HO498:=n1_
       have HO501:=n2_
       have HO505:=n3_
       have HO508:=n4_
       have HO512:=n5_
       have HO515:=n6_
       have HO518:=n7_
       have HO524:=n8_
       have HO527:=n9_
       have HO530:=n10_
       have BK502:=n11_
       have BK520:=n12_
       have BK532:=n13_
       have HB:=n14_
       clear n0_ n1_ n2_ n3_ n4_ n5_ n6_ n7_ n8_ n9_ n10_ n11_ n12_ n13_ n14_ hb
       skip
       skip
       skip
       refine hK.out _ _ ⟨(kC_ BK520.out 0).trans rfl,(kC_ BK520.out 1).trans rfl,(kC_ BK520.out 2).trans rfl,(kC_ BK520.out 3).trans rfl⟩ (fun hHeld=>?_)
       clear hK K
       refine norm_ (a':=?_) ?_ ?_
       rotate_left
       ·show Act.put _ (some 37) _ = _
        simp only [Act.put,sI_,sZ_,sS_,i64_w,i32_w]
        rfl
       refine pure_ (i:=8) (N:=some 38) (v:=?_) (a':=?_) (tb_ 9 16) rfl rfl (any_of HT_.out (by kernel_rfl)) (fun _ _ _ h=>h) (Or.inl ⟨by rfl,?_⟩) ?_ ?_
       rotate_left
       ·intro w'
        go_simp
        with_reducible rfl
       rotate_left
       ·simp only [Act.put,sI_,sZ_,sS_,i64_w,i32_w]
        rfl
       refine pure_ (i:=9) (N:=some 39) (v:=?_) (a':=?_) (tb_ 10 15) rfl rfl (any_of HT_.out (by kernel_rfl)) (fun _ _ _ h=>h) (Or.inl ⟨by rfl,?_⟩) ?_ ?_
       rotate_left
       ·intro w'
        go_simp
        with_reducible rfl
       rotate_left
       ·simp only [Act.put,sI_,sZ_,sS_,i64_w,i32_w]
        rfl
       refine pure_ (i:=12) (N:=some 42) (v:=?_) (a':=?_) #[true,true,true,true,true,true,true,true,true,true,false,false,true,false,false,false,false,false,false,false,false,false,false,false,false] rfl rfl (any_of HT_.out (by kernel_rfl)) (fun _ _ _ h=>h) (Or.inl ⟨by rfl,?_⟩) ?_ ?_
       rotate_left
       ·intro w'
        go_simp
        with_reducible rfl
       rotate_left
       ·simp only [Act.put,sI_,sZ_,sS_,i64_w,i32_w]
        rfl
       refine take_ (i:=10) (N:=some 40) (v:=?_) (a':=?_) #[true,true,true,true,true,true,true,true,true,true,true,false,true,false,false,false,false,false,false,false,false,false,false,false,false] rfl rfl (take_ofW HT_.out HW_.out (by kernel_rfl)) (fun _ _ _ h=>h) (Or.inl ⟨by rfl,?_⟩) hHeld ?_ ?_
       rotate_left
       ·rintro w' ⟨s0,s1,s2,s3⟩
        go_simp
        with_reducible rfl
       rotate_left
       ·simp only [Act.put,sI_,sZ_,sS_,i64_w,i32_w]
        rfl
       refine one_ (i:=11) (N:=some 41) (tb_ 13 12) rfl rfl (one_of HT_.out (by kernel_rfl)) (by decide) (fun K hK=>?_)
       refine goes_ Try.func15 (by kernel_rfl) rfl #[.agg #[.bool t509,.slice Ao23 t510.length co23,.slice Ao24 t513.length co24,.slice Ao25 t516.length co25]] (by rfl) rfl rfl (by (try simp only [mA_,mC_,mN_]);first | done | rfl | (simp only [lD_,lT_];rfl)) ?_
       with_reducible refine (impl_PutNode.calls k t509 _ _ t510 _ _ t513 _ _ t516 t534 _ ?side1 ?side2 ?side3 ?side4 ?side5 ?side6 A40.out).mono ?_
       (case side1=>repeat (first | exact (Kd.R_reads' HO512.out).2.2 | (with_reducible refine cA_ ?_ _) | (with_reducible refine cN_ ?_ _) | (with_reducible refine cD_ ?_)))
       (case side2=>exact (Kd.R_reads' HO512.out).2.1)
       (case side3=>repeat (first | exact (Kd.R_reads' HO515.out).2.2 | (with_reducible refine cA_ ?_ _) | (with_reducible refine cN_ ?_ _) | (with_reducible refine cD_ ?_)))
       (case side4=>exact (Kd.R_reads' HO515.out).2.1)
       (case side5=>repeat (first | exact (Kd.R_reads' HO518.out).2.2 | (with_reducible refine cA_ ?_ _) | (with_reducible refine cN_ ?_ _) | (with_reducible refine cD_ ?_)))
       (case side6=>exact (Kd.R_reads' HO518.out).2.1)
       rintro e w55 ⟨v535,rfl,ho0,hb⟩
       refine ⟨_,rfl,?_⟩
       have n0_:=aM_ (Kd.R_below (by exact rZ_ HO495) hb)
       have n1_:=aM_ (Kd.R_below (by exact rZ_ HO498) hb)
       have n2_:=aM_ (Kd.R_below (by exact rZ_ HO501) hb)
       have n3_:=aM_ (Kd.R_elder' (by exact rZ_ HO505) (Kd.R_base ho0) hb)
       have n4_:=aM_ (Kd.R_elder' (by exact rZ_ HO508) (Kd.R_base ho0) hb)
       have n5_:=aM_ (Kd.R_below (by exact rZ_ HO512) hb)
       have n6_:=aM_ (Kd.R_below (by exact rZ_ HO515) hb)
       have n7_:=aM_ (Kd.R_below (by exact rZ_ HO518) hb)
       have n8_:=aM_ (Kd.R_below (by exact rZ_ HO524) hb)
       have n9_:=aM_ (Kd.R_below (by exact rZ_ HO527) hb)
       have n10_:=aM_ (Kd.R_below (by exact rZ_ HO530) hb)
       have n11_:=aM_ (Kd.R_lower (Kd.R_new' (Kd.R_new' ho0 (Kd.R_lt (by exact rZ_ HO505))) (Kd.R_lt (by exact rZ_ HO508))) (bS_ (by exact bZ_ HB)))
       have n12_:=aM_ (blk_below (g:=gb502) (o:=.cells #[.bool t492,.slice Ao13 t493.length co13,.slice Ao14 t496.length co14,.slice Ao15 t499.length co15] 29 (0,0)) (by exact kZ_ BK502) hb)
       have n13_:=aM_ (blk_below (g:=gb520) (o:=.cells #[.bool t509,.slice Ao23 t510.length co23,.slice Ao24 t513.length co24,.slice Ao25 t516.length co25] 29 (0,0)) (by exact kZ_ BK520) hb)
       have n14_:=aM_ (blk_below (g:=gb532) (o:=.cells #[.bool t521,.slice Ao31 t522.length co31,.slice Ao32 t525.length co32,.slice Ao33 t528.length co33] 29 (0,0)) (by exact kZ_ BK532) hb)
       have n15_:=aM_ (bT_ (by exact bZ_ HB) hb)
       clear HO495 HO498 HO501 HO505 HO508 HO512 HO515 HO518 HO524 HO527 HO530 BK502 BK520 BK532 HB
       have HO495:=n0_
       have HO498:=n1_
       have HO501:=n2_
       have HO505:=n3_
       have HO508:=n4_
       have HO512:=n5_
       have HO515:=n6_
       have HO518:=n7_
       have HO524:=n8_
       have HO527:=n9_
       have HO530:=n10_
       have HO536:=n11_
       have BK502:=n12_
       have BK520:=n13_
       have BK532:=n14_
       have HB:=n15_
       clear n0_ n1_ n2_ n3_ n4_ n5_ n6_ n7_ n8_ n9_ n10_ n11_ n12_ n13_ n14_ n15_ hb
       skip
       skip
       skip
       clear ho0
       obtain ⟨Ao56,co56,eo56⟩:=Kd.R_slice HO536.out
       (first | subst eo56 | (injection eo56 with f1_ f2_ f3_;have f4_:=f1_.symm;have f5_:=f3_.symm;clear f1_ f2_ f3_;subst f4_;subst f5_))
       refine hK.out _ _ ⟨(kC_ BK520.out 0).trans rfl,(kC_ BK520.out 1).trans rfl,(kC_ BK520.out 2).trans rfl,(kC_ BK520.out 3).trans rfl⟩ (fun hHeld=>?_)
       clear hK K
       refine norm_ (a':=?_) ?_ ?_
       rotate_left
       ·show Act.put _ (some 41) _ = _
        simp only [Act.put,sI_,sZ_,sS_,i64_w,i32_w]
        rfl
       refine one_ (i:=13) (N:=some 43) (tb_ 14 11) rfl rfl (one_of HT_.out (by kernel_rfl)) (by decide) (fun K hK=>?_)
       refine goes_ Try.func29 (by kernel_rfl) rfl #[.slice Ao56 t534.length co56,.slice Ao18 t506.length co18] (by rfl) rfl rfl (by (try simp only [mA_,mC_,mN_]);first | done | rfl | (simp only [lD_,lT_];rfl)) ?_
       with_reducible refine (laws_sameBytes.calls k _ _ t534 _ _ t506 false _ ?side1 ?side2 ?side3 ?side4 A41.out).mono ?_
       (case side1=>repeat (first | exact (Kd.R_reads' HO536.out).2.2 | (with_reducible refine cA_ ?_ _) | (with_reducible refine cN_ ?_ _) | (with_reducible refine cD_ ?_)))
       (case side2=>exact (Kd.R_reads' HO536.out).2.1)
       (case side3=>repeat (first | exact (Kd.R_reads' HO508.out).2.2 | (with_reducible refine cA_ ?_ _) | (with_reducible refine cN_ ?_ _) | (with_reducible refine cD_ ?_)))
       (case side4=>exact (Kd.R_reads' HO508.out).2.1)
       rintro e w' ⟨rfl,⟨nd,rfl⟩⟩
       refine ⟨_,rfl,?_⟩
       refine hK.out _ _ ⟨(kC_ BK520.out 0).trans rfl,(kC_ BK520.out 1).trans rfl,(kC_ BK520.out 2).trans rfl,(kC_ BK520.out 3).trans rfl⟩ (fun hHeld=>?_)
       clear hK K
       refine norm_ (a':=?_) ?_ ?_
       rotate_left
       ·show Act.put _ (some 43) _ = _
        simp only [Act.put,sI_,sZ_,sS_,i64_w,i32_w]
        rfl
       refine pure_ (i:=14) (N:=some 44) (v:=?_) (a':=?_) (tb_ 15 10) rfl rfl (any_of HT_.out (by kernel_rfl)) (fun _ _ _ h=>h) (Or.inl ⟨by rfl,?_⟩) ?_ ?_
       rotate_left
       ·intro w'
        go_simp
        with_reducible rfl
       rotate_left
       ·simp only [Act.put,sI_,sZ_,sS_,i64_w,i32_w]
        rfl
       refine pure_ (i:=15) (N:=some 45) (v:=?_) (a':=?_) (tb_ 16 9) rfl rfl (any_of HT_.out (by kernel_rfl)) (fun _ _ _ h=>h) (Or.inl ⟨by rfl,?_⟩) ?_ ?_
       rotate_left
       ·intro w'
        go_simp
        with_reducible rfl
       rotate_left
       ·simp only [Act.put,sI_,sZ_,sS_,i64_w,i32_w]
        rfl
       refine pure_ (i:=16) (N:=some 46) (v:=?_) (a':=?_) (tb_ 17 8) rfl rfl (any_of HT_.out (by kernel_rfl)) (fun _ _ _ h=>h) (Or.inl ⟨by rfl,?_⟩) ?_ ?_
       rotate_left
       ·intro w'
        go_simp
        with_reducible rfl
       rotate_left
       ·simp only [Act.put,sI_,sZ_,sS_,i64_w,i32_w]
        rfl
       refine pure_ (i:=17) (N:=some 47) (v:=?_) (a':=?_) (tb_ 18 7) rfl rfl (any_of HT_.out (by kernel_rfl)) (fun _ _ _ h=>h) (Or.inl ⟨by rfl,?_⟩) ?_ ?_
       rotate_left
       ·intro w'
        go_simp
        with_reducible rfl
       rotate_left
       ·simp only [Act.put,sI_,sZ_,sS_,i64_w,i32_w]
        rfl
       refine pure_ (i:=18) (N:=some 48) (v:=?_) (a':=?_) (tb_ 19 6) rfl rfl (any_of HT_.out (by kernel_rfl)) (fun _ _ _ h=>h) (Or.inl ⟨by rfl,?_⟩) ?_ ?_
       rotate_left
       ·intro w'
        go_simp
        with_reducible rfl
       rotate_left
       ·simp only [Act.put,sI_,sZ_,sS_,i64_w,i32_w]
        rfl
       refine pure_ (i:=19) (N:=some 49) (v:=undef) (a':=?_) (tb_ 20 5) rfl rfl (any_of HT_.out (by kernel_rfl)) (fun _ _ _ h=>h) (Or.inr ⟨by rfl,rfl⟩) ?_ ?_
       rotate_left
       ·simp only [Act.put,sI_,sZ_,sS_,i64_w,i32_w]
        rfl
       refine pure_ (i:=20) (N:=some 50) (v:=undef) (a':=?_) (tb_ 21 4) rfl rfl (any_of HT_.out (by kernel_rfl)) (fun _ _ _ h=>h) (Or.inr ⟨by rfl,rfl⟩) ?_ ?_
       rotate_left
       ·simp only [Act.put,sI_,sZ_,sS_,i64_w,i32_w]
        rfl
       refine pure_ (i:=21) (N:=some 51) (v:=undef) (a':=?_) (tb_ 22 3) rfl rfl (any_of HT_.out (by kernel_rfl)) (fun _ _ _ h=>h) (Or.inr ⟨by rfl,rfl⟩) ?_ ?_
       rotate_left
       ·simp only [Act.put,sI_,sZ_,sS_,i64_w,i32_w]
        rfl
       refine pure_ (i:=22) (N:=some 52) (v:=undef) (a':=?_) (tb_ 23 2) rfl rfl (any_of HT_.out (by kernel_rfl)) (fun _ _ _ h=>h) (Or.inr ⟨by rfl,rfl⟩) ?_ ?_
       rotate_left
       ·simp only [Act.put,sI_,sZ_,sS_,i64_w,i32_w]
        rfl
       refine pure_ (i:=23) (N:=some 53) (v:=undef) (a':=?_) (tb_ 24 1) rfl rfl (any_of HT_.out (by kernel_rfl)) (fun _ _ _ h=>h) (Or.inr ⟨by rfl,rfl⟩) ?_ ?_
       rotate_left
       ·simp only [Act.put,sI_,sZ_,sS_,i64_w,i32_w]
        rfl
       refine pure_ (i:=24) (N:=some 54) (v:=?_) (a':=?_) (tb_ 25 0) rfl rfl (any_of HT_.out (by kernel_rfl)) (fun _ _ _ h=>h) (Or.inl ⟨by rfl,?_⟩) ?_ ?_
       rotate_left
       ·intro w'
        go_simp
        with_reducible rfl
       rotate_left
       ·simp only [Act.put,sI_,sZ_,sS_,i64_w,i32_w]
        rfl
       refine done_ (done_of HT_.out (by kernel_rfl)) ?_
       try go_wp2
       (first | go_meet | (refine Met.intro ?_;go_step;(repeat apply Exists.intro);refine ⟨?rel,?eq⟩;(case eq=>(try simp only [c29b0]);(try simp only [c34b0]);(try simp only [c34b0]);rfl)))
       case rel=>exact ⟨_,(true),(by first | rfl | (simp;done) | (simp [*];done)),H', ⟨by first | omega | exact Nat.le_refl _⟩,⟨by (with_reducible repeat (first | apply rA_ | apply rN_ | apply rD_));exact Kd.R_mono HO505.out (fun _ hk=>trivial)⟩,⟨by exact rZ_ HO495⟩,⟨by exact rZ_ HO498⟩,⟨by exact rZ_ HO501⟩,⟨by exact rZ_ HO512⟩,⟨by exact rZ_ HO515⟩,⟨by exact rZ_ HO518⟩,⟨by exact rZ_ HO524⟩,⟨by exact rZ_ HO527⟩,⟨by exact rZ_ HO530⟩,⟨by exact kZ_ BK502⟩,⟨by exact kZ_ BK520⟩,⟨by exact kZ_ BK532⟩,⟨by exact bZ_ HB⟩⟩
     ·replace c39:=Bool.eq_false_iff.mpr c39
      subst c39
      have H1 : (laws_FnNodes.j0 k t503 true t492 t493 t496 t499) = some r:=by rw [if_neg (show ¬ (false = true) by decide)] at H;exact H
      clear H
      have H:=H1
      clear H1
      have H':=aM_ H
      clear H
      try go_wp2
      have n0_ : Aside0 (Kd.R Kd.string 9 ((((w27.setCell ⟨gb532,0,none⟩ (.bool t521)).setCell ⟨gb532,1,none⟩ (.slice Ao31 t522.length co31)).setCell ⟨gb532,2,none⟩ (.slice Ao32 t525.length co32)).setCell ⟨gb532,3,none⟩ (.slice Ao33 t528.length co33)) w.heap.size (fun k_=>some k_ ≠ (.slice Ao14 t496.length co14 : Value).ownBlock ∧ some k_ ≠ (.slice Ao23 t510.length co23 : Value).ownBlock ∧ some k_ ≠ (.slice Ao24 t513.length co24 : Value).ownBlock ∧ some k_ ≠ (.slice Ao31 t522.length co31 : Value).ownBlock ∧ some k_ ≠ (.slice Ao32 t525.length co32 : Value).ownBlock) (.slice Ao13 t493.length co13) t493):=⟨by (with_reducible repeat (first | apply rA_ | apply rN_ | apply rD_));exact Kd.R_mono (Kd.R_far (p:=⟨gb532,3,none⟩) (Kd.R_far (p:=⟨gb532,2,none⟩) (Kd.R_far (p:=⟨gb532,1,none⟩) (Kd.R_far (p:=⟨gb532,0,none⟩) (Kd.R_types HO495.out BK532.out (by decide)) (fun _ hk=>hk.2) (.bool t521)) (fun _ hk=>hk.2) (.slice Ao31 t522.length co31)) (fun _ hk=>hk.2) (.slice Ao32 t525.length co32)) (fun _ hk=>hk.2) (.slice Ao33 t528.length co33)) (fun _ hk=>⟨hk.1.1.1.1.1,⟨hk.1.1.1.1.2,⟨hk.1.1.1.2,⟨hk.1.1.2,hk.1.2⟩⟩⟩⟩)⟩
      have n1_ : Aside0 (Kd.R Kd.string 9 ((((w27.setCell ⟨gb532,0,none⟩ (.bool t521)).setCell ⟨gb532,1,none⟩ (.slice Ao31 t522.length co31)).setCell ⟨gb532,2,none⟩ (.slice Ao32 t525.length co32)).setCell ⟨gb532,3,none⟩ (.slice Ao33 t528.length co33)) w.heap.size (fun k_=>some k_ ≠ (.slice Ao13 t493.length co13 : Value).ownBlock ∧ some k_ ≠ (.slice Ao23 t510.length co23 : Value).ownBlock ∧ some k_ ≠ (.slice Ao24 t513.length co24 : Value).ownBlock ∧ some k_ ≠ (.slice Ao31 t522.length co31 : Value).ownBlock ∧ some k_ ≠ (.slice Ao32 t525.length co32 : Value).ownBlock) (.slice Ao14 t496.length co14) t496):=⟨by (with_reducible repeat (first | apply rA_ | apply rN_ | apply rD_));exact Kd.R_mono (Kd.R_far (p:=⟨gb532,3,none⟩) (Kd.R_far (p:=⟨gb532,2,none⟩) (Kd.R_far (p:=⟨gb532,1,none⟩) (Kd.R_far (p:=⟨gb532,0,none⟩) (Kd.R_types HO498.out BK532.out (by decide)) (fun _ hk=>hk.2) (.bool t521)) (fun _ hk=>hk.2) (.slice Ao31 t522.length co31)) (fun _ hk=>hk.2) (.slice Ao32 t525.length co32)) (fun _ hk=>hk.2) (.slice Ao33 t528.length co33)) (fun _ hk=>⟨hk.1.1.1.1.1,⟨hk.1.1.1.1.2,⟨hk.1.1.1.2,⟨hk.1.1.2,hk.1.2⟩⟩⟩⟩)⟩
      have n2_ : Aside0 (Kd.R (Kd.int .i64) 3 ((((w27.setCell ⟨gb532,0,none⟩ (.bool t521)).setCell ⟨gb532,1,none⟩ (.slice Ao31 t522.length co31)).setCell ⟨gb532,2,none⟩ (.slice Ao32 t525.length co32)).setCell ⟨gb532,3,none⟩ (.slice Ao33 t528.length co33)) w.heap.size (fun k_=>some k_ ≠ (.slice Ao25 t516.length co25 : Value).ownBlock ∧ some k_ ≠ (.slice Ao33 t528.length co33 : Value).ownBlock) (.slice Ao15 t499.length co15) t499):=⟨by (with_reducible repeat (first | apply rA_ | apply rN_ | apply rD_));exact Kd.R_mono (Kd.R_far (p:=⟨gb532,3,none⟩) (Kd.R_far (p:=⟨gb532,2,none⟩) (Kd.R_far (p:=⟨gb532,1,none⟩) (Kd.R_far (p:=⟨gb532,0,none⟩) (Kd.R_types HO501.out BK532.out (by decide)) (fun _ hk=>hk.2) (.bool t521)) (fun _ hk=>hk.2) (.slice Ao31 t522.length co31)) (fun _ hk=>hk.2) (.slice Ao32 t525.length co32)) (fun _ hk=>hk.2) (.slice Ao33 t528.length co33)) (fun _ hk=>⟨hk.1.1.2,hk.1.2⟩)⟩
      have n3_ : Aside0 (Kd.R (Kd.int .u8) 5 ((((w27.setCell ⟨gb532,0,none⟩ (.bool t521)).setCell ⟨gb532,1,none⟩ (.slice Ao31 t522.length co31)).setCell ⟨gb532,2,none⟩ (.slice Ao32 t525.length co32)).setCell ⟨gb532,3,none⟩ (.slice Ao33 t528.length co33)) w.heap.size (fun k_=>some k_ ≠ (.slice Ao18 t506.length co18 : Value).ownBlock) v504 t503):=⟨by (with_reducible repeat (first | apply rA_ | apply rN_ | apply rD_));exact Kd.R_mono (Kd.R_far (p:=⟨gb532,3,none⟩) (Kd.R_far (p:=⟨gb532,2,none⟩) (Kd.R_far (p:=⟨gb532,1,none⟩) (Kd.R_far (p:=⟨gb532,0,none⟩) (Kd.R_types HO505.out BK532.out (by decide)) (fun _ hk=>hk.2) (.bool t521)) (fun _ hk=>hk.2) (.slice Ao31 t522.length co31)) (fun _ hk=>hk.2) (.slice Ao32 t525.length co32)) (fun _ hk=>hk.2) (.slice Ao33 t528.length co33)) (fun _ hk=>hk.1.2)⟩
      have n4_ : Aside0 (Kd.R (Kd.int .u8) 5 ((((w27.setCell ⟨gb532,0,none⟩ (.bool t521)).setCell ⟨gb532,1,none⟩ (.slice Ao31 t522.length co31)).setCell ⟨gb532,2,none⟩ (.slice Ao32 t525.length co32)).setCell ⟨gb532,3,none⟩ (.slice Ao33 t528.length co33)) w.heap.size (fun k_=>some k_ ≠ (v504 : Value).ownBlock) (.slice Ao18 t506.length co18) t506):=⟨by (with_reducible repeat (first | apply rA_ | apply rN_ | apply rD_));exact Kd.R_mono (Kd.R_far (p:=⟨gb532,3,none⟩) (Kd.R_far (p:=⟨gb532,2,none⟩) (Kd.R_far (p:=⟨gb532,1,none⟩) (Kd.R_far (p:=⟨gb532,0,none⟩) (Kd.R_types HO508.out BK532.out (by decide)) (fun _ hk=>hk.2) (.bool t521)) (fun _ hk=>hk.2) (.slice Ao31 t522.length co31)) (fun _ hk=>hk.2) (.slice Ao32 t525.length co32)) (fun _ hk=>hk.2) (.slice Ao33 t528.length co33)) (fun _ hk=>hk.1.2)⟩
      have n5_ : Aside0 (Kd.R Kd.string 9 ((((w27.setCell ⟨gb532,0,none⟩ (.bool t521)).setCell ⟨gb532,1,none⟩ (.slice Ao31 t522.length co31)).setCell ⟨gb532,2,none⟩ (.slice Ao32 t525.length co32)).setCell ⟨gb532,3,none⟩ (.slice Ao33 t528.length co33)) w.heap.size (fun k_=>some k_ ≠ (.slice Ao13 t493.length co13 : Value).ownBlock ∧ some k_ ≠ (.slice Ao14 t496.length co14 : Value).ownBlock ∧ some k_ ≠ (.slice Ao24 t513.length co24 : Value).ownBlock ∧ some k_ ≠ (.slice Ao31 t522.length co31 : Value).ownBlock ∧ some k_ ≠ (.slice Ao32 t525.length co32 : Value).ownBlock) (.slice Ao23 t510.length co23) t510):=⟨by (with_reducible repeat (first | apply rA_ | apply rN_ | apply rD_));exact Kd.R_mono (Kd.R_far (p:=⟨gb532,3,none⟩) (Kd.R_far (p:=⟨gb532,2,none⟩) (Kd.R_far (p:=⟨gb532,1,none⟩) (Kd.R_far (p:=⟨gb532,0,none⟩) (Kd.R_types HO512.out BK532.out (by decide)) (fun _ hk=>hk.2) (.bool t521)) (fun _ hk=>hk.2) (.slice Ao31 t522.length co31)) (fun _ hk=>hk.2) (.slice Ao32 t525.length co32)) (fun _ hk=>hk.2) (.slice Ao33 t528.length co33)) (fun _ hk=>⟨hk.1.1.1.1.2,⟨hk.1.1.1.2,⟨hk.1.1.1.1.1,⟨hk.1.1.2,hk.1.2⟩⟩⟩⟩)⟩
      have n6_ : Aside0 (Kd.R Kd.string 9 ((((w27.setCell ⟨gb532,0,none⟩ (.bool t521)).setCell ⟨gb532,1,none⟩ (.slice Ao31 t522.length co31)).setCell ⟨gb532,2,none⟩ (.slice Ao32 t525.length co32)).setCell ⟨gb532,3,none⟩ (.slice Ao33 t528.length co33)) w.heap.size (fun k_=>some k_ ≠ (.slice Ao13 t493.length co13 : Value).ownBlock ∧ some k_ ≠ (.slice Ao14 t496.length co14 : Value).ownBlock ∧ some k_ ≠ (.slice Ao23 t510.length co23 : Value).ownBlock ∧ some k_ ≠ (.slice Ao31 t522.length co31 : Value).ownBlock ∧ some k_ ≠ (.slice Ao32 t525.length co32 : Value).ownBlock) (.slice Ao24 t513.length co24) t513):=⟨by (with_reducible repeat (first | apply rA_ | apply rN_ | apply rD_));exact Kd.R_mono (Kd.R_far (p:=⟨gb532,3,none⟩) (Kd.R_far (p:=⟨gb532,2,none⟩) (Kd.R_far (p:=⟨gb532,1,none⟩) (Kd.R_far (p:=⟨gb532,0,none⟩) (Kd.R_types HO515.out BK532.out (by decide)) (fun _ hk=>hk.2) (.bool t521)) (fun _ hk=>hk.2) (.slice Ao31 t522.length co31)) (fun _ hk=>hk.2) (.slice Ao32 t525.length co32)) (fun _ hk=>hk.2) (.slice Ao33 t528.length co33)) (fun _ hk=>⟨hk.1.1.1.1.2,⟨hk.1.1.1.2,⟨hk.1.1.1.1.1,⟨hk.1.1.2,hk.1.2⟩⟩⟩⟩)⟩
      have n7_ : Aside0 (Kd.R (Kd.int .i64) 3 ((((w27.setCell ⟨gb532,0,none⟩ (.bool t521)).setCell ⟨gb532,1,none⟩ (.slice Ao31 t522.length co31)).setCell ⟨gb532,2,none⟩ (.slice Ao32 t525.length co32)).setCell ⟨gb532,3,none⟩ (.slice Ao33 t528.length co33)) w.heap.size (fun k_=>some k_ ≠ (.slice Ao15 t499.length co15 : Value).ownBlock ∧ some k_ ≠ (.slice Ao33 t528.length co33 : Value).ownBlock) (.slice Ao25 t516.length co25) t516):=⟨by (with_reducible repeat (first | apply rA_ | apply rN_ | apply rD_));exact Kd.R_mono (Kd.R_far (p:=⟨gb532,3,none⟩) (Kd.R_far (p:=⟨gb532,2,none⟩) (Kd.R_far (p:=⟨gb532,1,none⟩) (Kd.R_far (p:=⟨gb532,0,none⟩) (Kd.R_types HO518.out BK532.out (by decide)) (fun _ hk=>hk.2) (.bool t521)) (fun _ hk=>hk.2) (.slice Ao31 t522.length co31)) (fun _ hk=>hk.2) (.slice Ao32 t525.length co32)) (fun _ hk=>hk.2) (.slice Ao33 t528.length co33)) (fun _ hk=>⟨hk.1.1.2,hk.1.2⟩)⟩
      have n8_ : Aside0 (Kd.R Kd.string 9 ((((w27.setCell ⟨gb532,0,none⟩ (.bool t521)).setCell ⟨gb532,1,none⟩ (.slice Ao31 t522.length co31)).setCell ⟨gb532,2,none⟩ (.slice Ao32 t525.length co32)).setCell ⟨gb532,3,none⟩ (.slice Ao33 t528.length co33)) w.heap.size (fun k_=>some k_ ≠ (.slice Ao13 t493.length co13 : Value).ownBlock ∧ some k_ ≠ (.slice Ao14 t496.length co14 : Value).ownBlock ∧ some k_ ≠ (.slice Ao23 t510.length co23 : Value).ownBlock ∧ some k_ ≠ (.slice Ao24 t513.length co24 : Value).ownBlock ∧ some k_ ≠ (.slice Ao32 t525.length co32 : Value).ownBlock) (.slice Ao31 t522.length co31) t522):=⟨by (with_reducible repeat (first | apply rA_ | apply rN_ | apply rD_));exact Kd.R_mono (Kd.R_far (p:=⟨gb532,3,none⟩) (Kd.R_far (p:=⟨gb532,2,none⟩) (Kd.R_far (p:=⟨gb532,1,none⟩) (Kd.R_far (p:=⟨gb532,0,none⟩) (Kd.R_types HO524.out BK532.out (by decide)) (fun _ hk=>hk.2) (.bool t521)) (fun _ hk=>hk.2) (.slice Ao31 t522.length co31)) (fun _ hk=>hk.2) (.slice Ao32 t525.length co32)) (fun _ hk=>hk.2) (.slice Ao33 t528.length co33)) (fun _ hk=>⟨hk.1.1.1.1.2,⟨hk.1.1.1.2,⟨hk.1.1.2,⟨hk.1.2,hk.1.1.1.1.1⟩⟩⟩⟩)⟩
      have n9_ : Aside0 (Kd.R Kd.string 9 ((((w27.setCell ⟨gb532,0,none⟩ (.bool t521)).setCell ⟨gb532,1,none⟩ (.slice Ao31 t522.length co31)).setCell ⟨gb532,2,none⟩ (.slice Ao32 t525.length co32)).setCell ⟨gb532,3,none⟩ (.slice Ao33 t528.length co33)) w.heap.size (fun k_=>some k_ ≠ (.slice Ao13 t493.length co13 : Value).ownBlock ∧ some k_ ≠ (.slice Ao14 t496.length co14 : Value).ownBlock ∧ some k_ ≠ (.slice Ao23 t510.length co23 : Value).ownBlock ∧ some k_ ≠ (.slice Ao24 t513.length co24 : Value).ownBlock ∧ some k_ ≠ (.slice Ao31 t522.length co31 : Value).ownBlock) (.slice Ao32 t525.length co32) t525):=⟨by (with_reducible repeat (first | apply rA_ | apply rN_ | apply rD_));exact Kd.R_mono (Kd.R_far (p:=⟨gb532,3,none⟩) (Kd.R_far (p:=⟨gb532,2,none⟩) (Kd.R_far (p:=⟨gb532,1,none⟩) (Kd.R_far (p:=⟨gb532,0,none⟩) (Kd.R_types HO527.out BK532.out (by decide)) (fun _ hk=>hk.2) (.bool t521)) (fun _ hk=>hk.2) (.slice Ao31 t522.length co31)) (fun _ hk=>hk.2) (.slice Ao32 t525.length co32)) (fun _ hk=>hk.2) (.slice Ao33 t528.length co33)) (fun _ hk=>⟨hk.1.1.1.1.2,⟨hk.1.1.1.2,⟨hk.1.1.2,⟨hk.1.2,hk.1.1.1.1.1⟩⟩⟩⟩)⟩
      have n10_ : Aside0 (Kd.R (Kd.int .i64) 3 ((((w27.setCell ⟨gb532,0,none⟩ (.bool t521)).setCell ⟨gb532,1,none⟩ (.slice Ao31 t522.length co31)).setCell ⟨gb532,2,none⟩ (.slice Ao32 t525.length co32)).setCell ⟨gb532,3,none⟩ (.slice Ao33 t528.length co33)) w.heap.size (fun k_=>some k_ ≠ (.slice Ao15 t499.length co15 : Value).ownBlock ∧ some k_ ≠ (.slice Ao25 t516.length co25 : Value).ownBlock) (.slice Ao33 t528.length co33) t528):=⟨by (with_reducible repeat (first | apply rA_ | apply rN_ | apply rD_));exact Kd.R_mono (Kd.R_far (p:=⟨gb532,3,none⟩) (Kd.R_far (p:=⟨gb532,2,none⟩) (Kd.R_far (p:=⟨gb532,1,none⟩) (Kd.R_far (p:=⟨gb532,0,none⟩) (Kd.R_types HO530.out BK532.out (by decide)) (fun _ hk=>hk.2) (.bool t521)) (fun _ hk=>hk.2) (.slice Ao31 t522.length co31)) (fun _ hk=>hk.2) (.slice Ao32 t525.length co32)) (fun _ hk=>hk.2) (.slice Ao33 t528.length co33)) (fun _ hk=>⟨hk.1.1.2,hk.1.2⟩)⟩
      have n11_ : Aside0 (((((w27.setCell ⟨gb532,0,none⟩ (.bool t521)).setCell ⟨gb532,1,none⟩ (.slice Ao31 t522.length co31)).setCell ⟨gb532,2,none⟩ (.slice Ao32 t525.length co32)).setCell ⟨gb532,3,none⟩ (.slice Ao33 t528.length co33)).heap[gb502]? = some (.cells #[.bool t492,.slice Ao13 t493.length co13,.slice Ao14 t496.length co14,.slice Ao15 t499.length co15] 29 (0,0))):=⟨by exact kW_ BK502⟩
      have n12_ : Aside0 (((((w27.setCell ⟨gb532,0,none⟩ (.bool t521)).setCell ⟨gb532,1,none⟩ (.slice Ao31 t522.length co31)).setCell ⟨gb532,2,none⟩ (.slice Ao32 t525.length co32)).setCell ⟨gb532,3,none⟩ (.slice Ao33 t528.length co33)).heap[gb520]? = some (.cells #[.bool t509,.slice Ao23 t510.length co23,.slice Ao24 t513.length co24,.slice Ao25 t516.length co25] 29 (0,0))):=⟨by exact kW_ BK520⟩
      have n13_ : Aside0 (((((w27.setCell ⟨gb532,0,none⟩ (.bool t521)).setCell ⟨gb532,1,none⟩ (.slice Ao31 t522.length co31)).setCell ⟨gb532,2,none⟩ (.slice Ao32 t525.length co32)).setCell ⟨gb532,3,none⟩ (.slice Ao33 t528.length co33)).heap[gb532]? = some (.cells #[.bool t521,.slice Ao31 t522.length co31,.slice Ao32 t525.length co32,.slice Ao33 t528.length co33] 29 (0,0))):=⟨by (with_reducible repeat (first | refine kN_ ?_ _ | refine kD_ ?_ | refine kA_ ?_ _));refine kP_ (cs:=#[.bool t521,.slice Ao31 t522.length co31,.slice Ao32 t525.length co32,.slice none 0 0]) ?_ 3 _ rfl;(with_reducible repeat (first | refine kN_ ?_ _ | refine kD_ ?_ | refine kA_ ?_ _));refine kP_ (cs:=#[.bool t521,.slice Ao31 t522.length co31,.slice none 0 0,.slice none 0 0]) ?_ 2 _ rfl;(with_reducible repeat (first | refine kN_ ?_ _ | refine kD_ ?_ | refine kA_ ?_ _));refine kP_ (cs:=#[.bool t521,.slice none 0 0,.slice none 0 0,.slice none 0 0]) ?_ 1 _ rfl;(with_reducible repeat (first | refine kN_ ?_ _ | refine kD_ ?_ | refine kA_ ?_ _));refine kP_ (cs:=#[.bool false,.slice none 0 0,.slice none 0 0,.slice none 0 0]) ?_ 0 _ rfl;exact kZ_ BK532⟩
      have n14_ : Aside0 (Below w.heap.size w ((((w27.setCell ⟨gb532,0,none⟩ (.bool t521)).setCell ⟨gb532,1,none⟩ (.slice Ao31 t522.length co31)).setCell ⟨gb532,2,none⟩ (.slice Ao32 t525.length co32)).setCell ⟨gb532,3,none⟩ (.slice Ao33 t528.length co33))):=⟨by exact bZ_ HB⟩
      clear HO495 HO498 HO501 HO505 HO508 HO512 HO515 HO518 HO524 HO527 HO530 BK502 BK520 BK532 HB
      generalize ((((w27.setCell ⟨gb532,0,none⟩ (.bool t521)).setCell ⟨gb532,1,none⟩ (.slice Ao31 t522.length co31)).setCell ⟨gb532,2,none⟩ (.slice Ao32 t525.length co32)).setCell ⟨gb532,3,none⟩ (.slice Ao33 t528.length co33)) = w57 at n0_ n1_ n2_ n3_ n4_ n5_ n6_ n7_ n8_ n9_ n10_ n11_ n12_ n13_ n14_ ⊢
      have HO495:=n0_
      have HO498:=n1_
      have HO501:=n2_
      have HO505:=n3_
      have HO508:=n4_
      have HO512:=n5_
      have HO515:=n6_
      have HO518:=n7_
      have HO524:=n8_
      have HO527:=n9_
      have HO530:=n10_
      have BK502:=n11_
      have BK520:=n12_
      have BK532:=n13_
      have HB:=n14_
      clear n0_ n1_ n2_ n3_ n4_ n5_ n6_ n7_ n8_ n9_ n10_ n11_ n12_ n13_ n14_
      have n0_:=aM_ (rD_ HO495.out)
      have n1_:=aM_ (rD_ HO498.out)
      have n2_:=aM_ (rD_ HO501.out)
      have n3_:=aM_ (rD_ HO505.out)
      have n4_:=aM_ (rD_ HO508.out)
      have n5_:=aM_ (rD_ HO512.out)
      have n6_:=aM_ (rD_ HO515.out)
      have n7_:=aM_ (rD_ HO518.out)
      have n8_:=aM_ (rD_ HO524.out)
      have n9_:=aM_ (rD_ HO527.out)
      have n10_:=aM_ (rD_ HO530.out)
      have n11_:=aM_ (kD_ BK502.out)
      have n12_:=aM_ (kD_ BK520.out)
      have n13_:=aM_ (kD_ BK532.out)
      have n14_:=aM_ (bD_ HB.out)
      clear HO495 HO498 HO501 HO505 HO508 HO512 HO515 HO518 HO524 HO527 HO530 BK502 BK520 BK532 HB
      have HO495:=n0_
      have HO498:=n1_
      have HO501:=n2_
      have HO505:=n3_
      have HO508:=n4_
      have HO512:=n5_
      have HO515:=n6_
      have HO518:=n7_
      have HO524:=n8_
      have HO527:=n9_
      have HO530:=n10_
      have BK502:=n11_
      have BK520:=n12_
      have BK532:=n13_
      have HB:=n14_
      clear n0_ n1_ n2_ n3_ n4_ n5_ n6_ n7_ n8_ n9_ n10_ n11_ n12_ n13_ n14_
      refine start_ (n:=25) (S:=fun w'=>w'.cell? ⟨gb520,0,none⟩ = some (.bool t509) ∧ w'.cell? ⟨gb520,1,none⟩ = some (.slice Ao23 t510.length co23) ∧ w'.cell? ⟨gb520,2,none⟩ = some (.slice Ao24 t513.length co24) ∧ w'.cell? ⟨gb520,3,none⟩ = some (.slice Ao25 t516.length co25)) (ds:=[]) (tb_ 0 25) (by kernel_rfl) rfl rfl ⟨(kC_ BK520.out 0).trans rfl,(kC_ BK520.out 1).trans rfl,(kC_ BK520.out 2).trans rfl,(kC_ BK520.out 3).trans rfl⟩ (fun hHeld=>?_);refine with_tabW laws_FnNodes.tab8 laws_FnNodes.bits8 (fun HT_ HW_=>?_)
      generalize w57.drew = w58 at HO495 HO498 HO501 HO505 HO508 HO512 HO515 HO518 HO524 HO527 HO530 BK502 BK520 BK532 HB hHeld ⊢
      refine pure_ (i:=0) (N:=some 30) (v:=?_) (a':=?_) (tb_ 1 24) rfl rfl (any_of HT_.out (by kernel_rfl)) (fun _ _ _ h=>h) (Or.inl ⟨by rfl,?_⟩) ?_ ?_
      rotate_left
      ·intro w'
       go_simp
       with_reducible rfl
      rotate_left
      ·simp only [Act.put,sI_,sZ_,sS_,i64_w,i32_w]
       rfl
      refine pure_ (i:=1) (N:=some 31) (v:=?_) (a':=?_) (tb_ 2 23) rfl rfl (any_of HT_.out (by kernel_rfl)) (fun _ _ _ h=>h) (Or.inl ⟨by rfl,?_⟩) ?_ ?_
      rotate_left
      ·intro w'
       go_simp
       with_reducible rfl
      rotate_left
      ·simp only [Act.put,sI_,sZ_,sS_,i64_w,i32_w]
       rfl
      refine pure_ (i:=2) (N:=some 32) (v:=?_) (a':=?_) (tb_ 3 22) rfl rfl (any_of HT_.out (by kernel_rfl)) (fun _ _ _ h=>h) (Or.inl ⟨by rfl,?_⟩) ?_ ?_
      rotate_left
      ·intro w'
       go_simp
       with_reducible rfl
      rotate_left
      ·simp only [Act.put,sI_,sZ_,sS_,i64_w,i32_w]
       rfl
      refine pure_ (i:=3) (N:=some 33) (v:=?_) (a':=?_) (tb_ 4 21) rfl rfl (any_of HT_.out (by kernel_rfl)) (fun _ _ _ h=>h) (Or.inl ⟨by rfl,?_⟩) ?_ ?_
      rotate_left
      ·intro w'
       go_simp
       with_reducible rfl
      rotate_left
      ·simp only [Act.put,sI_,sZ_,sS_,i64_w,i32_w]
       rfl
      refine pure_ (i:=4) (N:=some 34) (v:=?_) (a':=?_) (tb_ 5 20) rfl rfl (any_of HT_.out (by kernel_rfl)) (fun _ _ _ h=>h) (Or.inl ⟨by rfl,?_⟩) ?_ ?_
      rotate_left
      ·intro w'
       go_simp
       with_reducible rfl
      rotate_left
      ·simp only [Act.put,sI_,sZ_,sS_,i64_w,i32_w]
       rfl
      refine pure_ (i:=5) (N:=some 35) (v:=?_) (a':=?_) (tb_ 6 19) rfl rfl (any_of HT_.out (by kernel_rfl)) (fun _ _ _ h=>h) (Or.inl ⟨by rfl,?_⟩) ?_ ?_
      rotate_left
      ·intro w'
       go_simp
       with_reducible rfl
      rotate_left
      ·simp only [Act.put,sI_,sZ_,sS_,i64_w,i32_w]
       rfl
      refine take_ (i:=6) (N:=some 36) (v:=?_) (a':=?_) (tb_ 7 18) rfl rfl (take_ofW HT_.out HW_.out (by kernel_rfl)) (fun _ _ _ h=>h) (Or.inl ⟨by rfl,?_⟩) hHeld ?_ ?_
      rotate_left
      ·rintro w' ⟨s0,s1,s2,s3⟩
       go_simp
       with_reducible rfl
      rotate_left
      ·simp only [Act.put,sI_,sZ_,sS_,i64_w,i32_w]
       rfl
      refine one_ (i:=7) (N:=some 37) (tb_ 8 17) rfl rfl (one_of HT_.out (by kernel_rfl)) (by decide) (fun K hK=>?_)
      refine goes_ Try.func28 (by kernel_rfl) rfl #[.agg #[.bool t509,.slice Ao23 t510.length co23,.slice Ao24 t513.length co24,.slice Ao25 t516.length co25]] (by rfl) rfl rfl (by (try simp only [mA_,mC_,mN_]);first | done | rfl | (simp only [lD_,lT_];rfl)) ?_
      with_reducible refine (impl_NodeOk.calls k t509 _ _ t510 _ _ t513 _ _ t516 false _ ?side1 ?side2 ?side3 ?side4 ?side5 ?side6 A38.out).mono ?_
      (case side1=>repeat (first | exact (Kd.R_reads' HO512.out).2.2 | (with_reducible refine cA_ ?_ _) | (with_reducible refine cN_ ?_ _) | (with_reducible refine cD_ ?_)))
      (case side2=>exact (Kd.R_reads' HO512.out).2.1)
      (case side3=>repeat (first | exact (Kd.R_reads' HO515.out).2.2 | (with_reducible refine cA_ ?_ _) | (with_reducible refine cN_ ?_ _) | (with_reducible refine cD_ ?_)))
      (case side4=>exact (Kd.R_reads' HO515.out).2.1)
      (case side5=>repeat (first | exact (Kd.R_reads' HO518.out).2.2 | (with_reducible refine cA_ ?_ _) | (with_reducible refine cN_ ?_ _) | (with_reducible refine cD_ ?_)))
      (case side6=>exact (Kd.R_reads' HO518.out).2.1)
      rintro e w59 ⟨rfl,hb⟩
      refine ⟨_,rfl,?_⟩
      have n0_:=aM_ (Kd.R_below (by exact rZ_ HO495) hb)
      have n1_:=aM_ (Kd.R_below (by exact rZ_ HO498) hb)
      have n2_:=aM_ (Kd.R_below (by exact rZ_ HO501) hb)
      have n3_:=aM_ (Kd.R_below (by exact rZ_ HO505) hb)
      have n4_:=aM_ (Kd.R_below (by exact rZ_ HO508) hb)
      have n5_:=aM_ (Kd.R_below (by exact rZ_ HO512) hb)
      have n6_:=aM_ (Kd.R_below (by exact rZ_ HO515) hb)
      have n7_:=aM_ (Kd.R_below (by exact rZ_ HO518) hb)
      have n8_:=aM_ (Kd.R_below (by exact rZ_ HO524) hb)
      have n9_:=aM_ (Kd.R_below (by exact rZ_ HO527) hb)
      have n10_:=aM_ (Kd.R_below (by exact rZ_ HO530) hb)
      have n11_:=aM_ (blk_below (g:=gb502) (o:=.cells #[.bool t492,.slice Ao13 t493.length co13,.slice Ao14 t496.length co14,.slice Ao15 t499.length co15] 29 (0,0)) (by exact kZ_ BK502) hb)
      have n12_:=aM_ (blk_below (g:=gb520) (o:=.cells #[.bool t509,.slice Ao23 t510.length co23,.slice Ao24 t513.length co24,.slice Ao25 t516.length co25] 29 (0,0)) (by exact kZ_ BK520) hb)
      have n13_:=aM_ (blk_below (g:=gb532) (o:=.cells #[.bool t521,.slice Ao31 t522.length co31,.slice Ao32 t525.length co32,.slice Ao33 t528.length co33] 29 (0,0)) (by exact kZ_ BK532) hb)
      have n14_:=aM_ (bT_ (by exact bZ_ HB) hb)
      clear HO495 HO498 HO501 HO505 HO508 HO512 HO515 HO518 HO524 HO527 HO530 BK502 BK520 BK532 HB
      have HO495:=n0_
      have HO498:=n1_
      have HO501:=n2_
      have HO505:=n3_
      have HO508:=n4_
      have HO512:=n5_
      have HO515:=n6_
      have HO518:=n7_
      have HO524:=n8_
      have HO527:=n9_
      have HO530:=n10_
      have BK502:=n11_
      have BK520:=n12_
      have BK532:=n13_
      have HB:=n14_
      clear n0_ n1_ n2_ n3_ n4_ n5_ n6_ n7_ n8_ n9_ n10_ n11_ n12_ n13_ n14_ hb
      skip
      skip
      skip
      refine hK.out _ _ ⟨(kC_ BK520.out 0).trans rfl,(kC_ BK520.out 1).trans rfl,(kC_ BK520.out 2).trans rfl,(kC_ BK520.out 3).trans rfl⟩ (fun hHeld=>?_)
      clear hK K
      refine norm_ (a':=?_) ?_ ?_
      rotate_left
      ·show Act.put _ (some 37) _ = _
       simp only [Act.put,sI_,sZ_,sS_,i64_w,i32_w]
       rfl
      refine pure_ (i:=8) (N:=some 38) (v:=?_) (a':=?_) (tb_ 9 16) rfl rfl (any_of HT_.out (by kernel_rfl)) (fun _ _ _ h=>h) (Or.inl ⟨by rfl,?_⟩) ?_ ?_
      rotate_left
      ·intro w'
       go_simp
       with_reducible rfl
      rotate_left
      ·simp only [Act.put,sI_,sZ_,sS_,i64_w,i32_w]
       rfl
      refine pure_ (i:=9) (N:=some 39) (v:=?_) (a':=?_) (tb_ 10 15) rfl rfl (any_of HT_.out (by kernel_rfl)) (fun _ _ _ h=>h) (Or.inl ⟨by rfl,?_⟩) ?_ ?_
      rotate_left
      ·intro w'
       go_simp
       with_reducible rfl
      rotate_left
      ·simp only [Act.put,sI_,sZ_,sS_,i64_w,i32_w]
       rfl
      refine pure_ (i:=10) (N:=some 40) (v:=undef) (a':=?_) (tb_ 11 14) rfl rfl (any_of HT_.out (by kernel_rfl)) (fun _ _ _ h=>h) (Or.inr ⟨by rfl,rfl⟩) ?_ ?_
      rotate_left
      ·simp only [Act.put,sI_,sZ_,sS_,i64_w,i32_w]
       rfl
      refine pure_ (i:=11) (N:=some 41) (v:=undef) (a':=?_) (tb_ 12 13) rfl rfl (any_of HT_.out (by kernel_rfl)) (fun _ _ _ h=>h) (Or.inr ⟨by rfl,rfl⟩) ?_ ?_
      rotate_left
      ·simp only [Act.put,sI_,sZ_,sS_,i64_w,i32_w]
       rfl
      refine pure_ (i:=12) (N:=some 42) (v:=undef) (a':=?_) (tb_ 13 12) rfl rfl (any_of HT_.out (by kernel_rfl)) (fun _ _ _ h=>h) (Or.inr ⟨by rfl,rfl⟩) ?_ ?_
      rotate_left
      ·simp only [Act.put,sI_,sZ_,sS_,i64_w,i32_w]
       rfl
      refine pure_ (i:=13) (N:=some 43) (v:=undef) (a':=?_) (tb_ 14 11) rfl rfl (any_of HT_.out (by kernel_rfl)) (fun _ _ _ h=>h) (Or.inr ⟨by rfl,rfl⟩) ?_ ?_
      rotate_left
      ·simp only [Act.put,sI_,sZ_,sS_,i64_w,i32_w]
       rfl
      refine pure_ (i:=14) (N:=some 44) (v:=undef) (a':=?_) (tb_ 15 10) rfl rfl (any_of HT_.out (by kernel_rfl)) (fun _ _ _ h=>h) (Or.inr ⟨by rfl,rfl⟩) ?_ ?_
      rotate_left
      ·simp only [Act.put,sI_,sZ_,sS_,i64_w,i32_w]
       rfl
      refine pure_ (i:=15) (N:=some 45) (v:=?_) (a':=?_) (tb_ 16 9) rfl rfl (any_of HT_.out (by kernel_rfl)) (fun _ _ _ h=>h) (Or.inl ⟨by rfl,?_⟩) ?_ ?_
      rotate_left
      ·intro w'
       go_simp
       with_reducible rfl
      rotate_left
      ·simp only [Act.put,sI_,sZ_,sS_,i64_w,i32_w]
       rfl
      refine pure_ (i:=16) (N:=some 46) (v:=?_) (a':=?_) (tb_ 17 8) rfl rfl (any_of HT_.out (by kernel_rfl)) (fun _ _ _ h=>h) (Or.inl ⟨by rfl,?_⟩) ?_ ?_
      rotate_left
      ·intro w'
       go_simp
       with_reducible rfl
      rotate_left
      ·simp only [Act.put,sI_,sZ_,sS_,i64_w,i32_w]
       rfl
      refine pure_ (i:=17) (N:=some 47) (v:=?_) (a':=?_) (tb_ 18 7) rfl rfl (any_of HT_.out (by kernel_rfl)) (fun _ _ _ h=>h) (Or.inl ⟨by rfl,?_⟩) ?_ ?_
      rotate_left
      ·intro w'
       go_simp
       with_reducible rfl
      rotate_left
      ·simp only [Act.put,sI_,sZ_,sS_,i64_w,i32_w]
       rfl
      refine pure_ (i:=18) (N:=some 48) (v:=?_) (a':=?_) (tb_ 19 6) rfl rfl (any_of HT_.out (by kernel_rfl)) (fun _ _ _ h=>h) (Or.inl ⟨by rfl,?_⟩) ?_ ?_
      rotate_left
      ·intro w'
       go_simp
       with_reducible rfl
      rotate_left
      ·simp only [Act.put,sI_,sZ_,sS_,i64_w,i32_w]
       rfl
      refine pure_ (i:=19) (N:=some 49) (v:=undef) (a':=?_) (tb_ 20 5) rfl rfl (any_of HT_.out (by kernel_rfl)) (fun _ _ _ h=>h) (Or.inr ⟨by rfl,rfl⟩) ?_ ?_
      rotate_left
      ·simp only [Act.put,sI_,sZ_,sS_,i64_w,i32_w]
       rfl
      refine pure_ (i:=20) (N:=some 50) (v:=undef) (a':=?_) (tb_ 21 4) rfl rfl (any_of HT_.out (by kernel_rfl)) (fun _ _ _ h=>h) (Or.inr ⟨by rfl,rfl⟩) ?_ ?_
      rotate_left
      ·simp only [Act.put,sI_,sZ_,sS_,i64_w,i32_w]
       rfl
      refine pure_ (i:=21) (N:=some 51) (v:=undef) (a':=?_) (tb_ 22 3) rfl rfl (any_of HT_.out (by kernel_rfl)) (fun _ _ _ h=>h) (Or.inr ⟨by rfl,rfl⟩) ?_ ?_
      rotate_left
      ·simp only [Act.put,sI_,sZ_,sS_,i64_w,i32_w]
       rfl
      refine pure_ (i:=22) (N:=some 52) (v:=undef) (a':=?_) (tb_ 23 2) rfl rfl (any_of HT_.out (by kernel_rfl)) (fun _ _ _ h=>h) (Or.inr ⟨by rfl,rfl⟩) ?_ ?_
      rotate_left
      ·simp only [Act.put,sI_,sZ_,sS_,i64_w,i32_w]
       rfl
      refine pure_ (i:=23) (N:=some 53) (v:=undef) (a':=?_) (tb_ 24 1) rfl rfl (any_of HT_.out (by kernel_rfl)) (fun _ _ _ h=>h) (Or.inr ⟨by rfl,rfl⟩) ?_ ?_
      rotate_left
      ·simp only [Act.put,sI_,sZ_,sS_,i64_w,i32_w]
       rfl
      refine pure_ (i:=24) (N:=some 54) (v:=?_) (a':=?_) (tb_ 25 0) rfl rfl (any_of HT_.out (by kernel_rfl)) (fun _ _ _ h=>h) (Or.inl ⟨by rfl,?_⟩) ?_ ?_
      rotate_left
      ·intro w'
       go_simp
       with_reducible rfl
      rotate_left
      ·simp only [Act.put,sI_,sZ_,sS_,i64_w,i32_w]
       rfl
      refine done_ (done_of HT_.out (by kernel_rfl)) ?_
      try go_wp2
      (first | go_meet | (refine Met.intro ?_;go_step;(repeat apply Exists.intro);refine ⟨?rel,?eq⟩;(case eq=>(try simp only [c29b0]);(try simp only [c34b0]);(try simp only [c34b0]);rfl)))
      case rel=>exact ⟨_,(true),(by first | rfl | (simp;done) | (simp [*];done)),H', ⟨by first | omega | exact Nat.le_refl _⟩,⟨by (with_reducible repeat (first | apply rA_ | apply rN_ | apply rD_));exact Kd.R_mono HO505.out (fun _ hk=>trivial)⟩,⟨by exact rZ_ HO495⟩,⟨by exact rZ_ HO498⟩,⟨by exact rZ_ HO501⟩,⟨by exact rZ_ HO512⟩,⟨by exact rZ_ HO515⟩,⟨by exact rZ_ HO518⟩,⟨by exact rZ_ HO524⟩,⟨by exact rZ_ HO527⟩,⟨by exact rZ_ HO530⟩,⟨by exact kZ_ BK502⟩,⟨by exact kZ_ BK520⟩,⟨by exact kZ_ BK532⟩,⟨by exact bZ_ HB⟩⟩
    ·replace c37:=Bool.eq_false_iff.mpr c37
     subst c37
     have H1 : ((impl_SizeOf.f k t492 t493 t496 t499).bind fun t540=>((spec_SizeOf.f k t492 t493 t496 t499).bind fun t541=>(laws_FnNodes.j0 k t503 (t540 != t541) t492 t493 t496 t499))) = some r:=by rw [if_neg (show ¬ (false = true) by decide)] at H;exact H
     clear H
     have H:=H1
     clear H1
     replace H:=oB_ H
     obtain ⟨t540,A600,H⟩:=H
     replace H : ((spec_SizeOf.f k t492 t493 t496 t499).bind fun t541=>(laws_FnNodes.j0 k t503 (t540 != t541) t492 t493 t496 t499)) = some r:=H
     have A60:=aM_ A600
     clear A600
     replace H:=oB_ H
     obtain ⟨t541,A610,H⟩:=H
     replace H : (laws_FnNodes.j0 k t503 (t540 != t541) t492 t493 t496 t499) = some r:=H
     have A61:=aM_ A610
     clear A610
     have H':=aM_ H
     clear H
     try go_wp2
     have n0_ : Aside0 (Kd.R Kd.string 9 ((((w27.setCell ⟨gb532,0,none⟩ (.bool t521)).setCell ⟨gb532,1,none⟩ (.slice Ao31 t522.length co31)).setCell ⟨gb532,2,none⟩ (.slice Ao32 t525.length co32)).setCell ⟨gb532,3,none⟩ (.slice Ao33 t528.length co33)) w.heap.size (fun k_=>some k_ ≠ (.slice Ao14 t496.length co14 : Value).ownBlock ∧ some k_ ≠ (.slice Ao23 t510.length co23 : Value).ownBlock ∧ some k_ ≠ (.slice Ao24 t513.length co24 : Value).ownBlock ∧ some k_ ≠ (.slice Ao31 t522.length co31 : Value).ownBlock ∧ some k_ ≠ (.slice Ao32 t525.length co32 : Value).ownBlock) (.slice Ao13 t493.length co13) t493):=⟨by (with_reducible repeat (first | apply rA_ | apply rN_ | apply rD_));exact Kd.R_mono (Kd.R_far (p:=⟨gb532,3,none⟩) (Kd.R_far (p:=⟨gb532,2,none⟩) (Kd.R_far (p:=⟨gb532,1,none⟩) (Kd.R_far (p:=⟨gb532,0,none⟩) (Kd.R_types HO495.out BK532.out (by decide)) (fun _ hk=>hk.2) (.bool t521)) (fun _ hk=>hk.2) (.slice Ao31 t522.length co31)) (fun _ hk=>hk.2) (.slice Ao32 t525.length co32)) (fun _ hk=>hk.2) (.slice Ao33 t528.length co33)) (fun _ hk=>⟨hk.1.1.1.1.1,⟨hk.1.1.1.1.2,⟨hk.1.1.1.2,⟨hk.1.1.2,hk.1.2⟩⟩⟩⟩)⟩
     have n1_ : Aside0 (Kd.R Kd.string 9 ((((w27.setCell ⟨gb532,0,none⟩ (.bool t521)).setCell ⟨gb532,1,none⟩ (.slice Ao31 t522.length co31)).setCell ⟨gb532,2,none⟩ (.slice Ao32 t525.length co32)).setCell ⟨gb532,3,none⟩ (.slice Ao33 t528.length co33)) w.heap.size (fun k_=>some k_ ≠ (.slice Ao13 t493.length co13 : Value).ownBlock ∧ some k_ ≠ (.slice Ao23 t510.length co23 : Value).ownBlock ∧ some k_ ≠ (.slice Ao24 t513.length co24 : Value).ownBlock ∧ some k_ ≠ (.slice Ao31 t522.length co31 : Value).ownBlock ∧ some k_ ≠ (.slice Ao32 t525.length co32 : Value).ownBlock) (.slice Ao14 t496.length co14) t496):=⟨by (with_reducible repeat (first | apply rA_ | apply rN_ | apply rD_));exact Kd.R_mono (Kd.R_far (p:=⟨gb532,3,none⟩) (Kd.R_far (p:=⟨gb532,2,none⟩) (Kd.R_far (p:=⟨gb532,1,none⟩) (Kd.R_far (p:=⟨gb532,0,none⟩) (Kd.R_types HO498.out BK532.out (by decide)) (fun _ hk=>hk.2) (.bool t521)) (fun _ hk=>hk.2) (.slice Ao31 t522.length co31)) (fun _ hk=>hk.2) (.slice Ao32 t525.length co32)) (fun _ hk=>hk.2) (.slice Ao33 t528.length co33)) (fun _ hk=>⟨hk.1.1.1.1.1,⟨hk.1.1.1.1.2,⟨hk.1.1.1.2,⟨hk.1.1.2,hk.1.2⟩⟩⟩⟩)⟩
     have n2_ : Aside0 (Kd.R (Kd.int .i64) 3 ((((w27.setCell ⟨gb532,0,none⟩ (.bool t521)).setCell ⟨gb532,1,none⟩ (.slice Ao31 t522.length co31)).setCell ⟨gb532,2,none⟩ (.slice Ao32 t525.length co32)).setCell ⟨gb532,3,none⟩ (.slice Ao33 t528.length co33)) w.heap.size (fun k_=>some k_ ≠ (.slice Ao25 t516.length co25 : Value).ownBlock ∧ some k_ ≠ (.slice Ao33 t528.length co33 : Value).ownBlock) (.slice Ao15 t499.length co15) t499):=⟨by (with_reducible repeat (first | apply rA_ | apply rN_ | apply rD_));exact Kd.R_mono (Kd.R_far (p:=⟨gb532,3,none⟩) (Kd.R_far (p:=⟨gb532,2,none⟩) (Kd.R_far (p:=⟨gb532,1,none⟩) (Kd.R_far (p:=⟨gb532,0,none⟩) (Kd.R_types HO501.out BK532.out (by decide)) (fun _ hk=>hk.2) (.bool t521)) (fun _ hk=>hk.2) (.slice Ao31 t522.length co31)) (fun _ hk=>hk.2) (.slice Ao32 t525.length co32)) (fun _ hk=>hk.2) (.slice Ao33 t528.length co33)) (fun _ hk=>⟨hk.1.1.2,hk.1.2⟩)⟩
     have n3_ : Aside0 (Kd.R (Kd.int .u8) 5 ((((w27.setCell ⟨gb532,0,none⟩ (.bool t521)).setCell ⟨gb532,1,none⟩ (.slice Ao31 t522.length co31)).setCell ⟨gb532,2,none⟩ (.slice Ao32 t525.length co32)).setCell ⟨gb532,3,none⟩ (.slice Ao33 t528.length co33)) w.heap.size (fun k_=>some k_ ≠ (.slice Ao18 t506.length co18 : Value).ownBlock) v504 t503):=⟨by (with_reducible repeat (first | apply rA_ | apply rN_ | apply rD_));exact Kd.R_mono (Kd.R_far (p:=⟨gb532,3,none⟩) (Kd.R_far (p:=⟨gb532,2,none⟩) (Kd.R_far (p:=⟨gb532,1,none⟩) (Kd.R_far (p:=⟨gb532,0,none⟩) (Kd.R_types HO505.out BK532.out (by decide)) (fun _ hk=>hk.2) (.bool t521)) (fun _ hk=>hk.2) (.slice Ao31 t522.length co31)) (fun _ hk=>hk.2) (.slice Ao32 t525.length co32)) (fun _ hk=>hk.2) (.slice Ao33 t528.length co33)) (fun _ hk=>hk.1.2)⟩
     have n4_ : Aside0 (Kd.R (Kd.int .u8) 5 ((((w27.setCell ⟨gb532,0,none⟩ (.bool t521)).setCell ⟨gb532,1,none⟩ (.slice Ao31 t522.length co31)).setCell ⟨gb532,2,none⟩ (.slice Ao32 t525.length co32)).setCell ⟨gb532,3,none⟩ (.slice Ao33 t528.length co33)) w.heap.size (fun k_=>some k_ ≠ (v504 : Value).ownBlock) (.slice Ao18 t506.length co18) t506):=⟨by (with_reducible repeat (first | apply rA_ | apply rN_ | apply rD_));exact Kd.R_mono (Kd.R_far (p:=⟨gb532,3,none⟩) (Kd.R_far (p:=⟨gb532,2,none⟩) (Kd.R_far (p:=⟨gb532,1,none⟩) (Kd.R_far (p:=⟨gb532,0,none⟩) (Kd.R_types HO508.out BK532.out (by decide)) (fun _ hk=>hk.2) (.bool t521)) (fun _ hk=>hk.2) (.slice Ao31 t522.length co31)) (fun _ hk=>hk.2) (.slice Ao32 t525.length co32)) (fun _ hk=>hk.2) (.slice Ao33 t528.length co33)) (fun _ hk=>hk.1.2)⟩
     have n5_ : Aside0 (Kd.R Kd.string 9 ((((w27.setCell ⟨gb532,0,none⟩ (.bool t521)).setCell ⟨gb532,1,none⟩ (.slice Ao31 t522.length co31)).setCell ⟨gb532,2,none⟩ (.slice Ao32 t525.length co32)).setCell ⟨gb532,3,none⟩ (.slice Ao33 t528.length co33)) w.heap.size (fun k_=>some k_ ≠ (.slice Ao13 t493.length co13 : Value).ownBlock ∧ some k_ ≠ (.slice Ao14 t496.length co14 : Value).ownBlock ∧ some k_ ≠ (.slice Ao24 t513.length co24 : Value).ownBlock ∧ some k_ ≠ (.slice Ao31 t522.length co31 : Value).ownBlock ∧ some k_ ≠ (.slice Ao32 t525.length co32 : Value).ownBlock) (.slice Ao23 t510.length co23) t510):=⟨by (with_reducible repeat (first | apply rA_ | apply rN_ | apply rD_));exact Kd.R_mono (Kd.R_far (p:=⟨gb532,3,none⟩) (Kd.R_far (p:=⟨gb532,2,none⟩) (Kd.R_far (p:=⟨gb532,1,none⟩) (Kd.R_far (p:=⟨gb532,0,none⟩) (Kd.R_types HO512.out BK532.out (by decide)) (fun _ hk=>hk.2) (.bool t521)) (fun _ hk=>hk.2) (.slice Ao31 t522.length co31)) (fun _ hk=>hk.2) (.slice Ao32 t525.length co32)) (fun _ hk=>hk.2) (.slice Ao33 t528.length co33)) (fun _ hk=>⟨hk.1.1.1.1.2,⟨hk.1.1.1.2,⟨hk.1.1.1.1.1,⟨hk.1.1.2,hk.1.2⟩⟩⟩⟩)⟩
     have n6_ : Aside0 (Kd.R Kd.string 9 ((((w27.setCell ⟨gb532,0,none⟩ (.bool t521)).setCell ⟨gb532,1,none⟩ (.slice Ao31 t522.length co31)).setCell ⟨gb532,2,none⟩ (.slice Ao32 t525.length co32)).setCell ⟨gb532,3,none⟩ (.slice Ao33 t528.length co33)) w.heap.size (fun k_=>some k_ ≠ (.slice Ao13 t493.length co13 : Value).ownBlock ∧ some k_ ≠ (.slice Ao14 t496.length co14 : Value).ownBlock ∧ some k_ ≠ (.slice Ao23 t510.length co23 : Value).ownBlock ∧ some k_ ≠ (.slice Ao31 t522.length co31 : Value).ownBlock ∧ some k_ ≠ (.slice Ao32 t525.length co32 : Value).ownBlock) (.slice Ao24 t513.length co24) t513):=⟨by (with_reducible repeat (first | apply rA_ | apply rN_ | apply rD_));exact Kd.R_mono (Kd.R_far (p:=⟨gb532,3,none⟩) (Kd.R_far (p:=⟨gb532,2,none⟩) (Kd.R_far (p:=⟨gb532,1,none⟩) (Kd.R_far (p:=⟨gb532,0,none⟩) (Kd.R_types HO515.out BK532.out (by decide)) (fun _ hk=>hk.2) (.bool t521)) (fun _ hk=>hk.2) (.slice Ao31 t522.length co31)) (fun _ hk=>hk.2) (.slice Ao32 t525.length co32)) (fun _ hk=>hk.2) (.slice Ao33 t528.length co33)) (fun _ hk=>⟨hk.1.1.1.1.2,⟨hk.1.1.1.2,⟨hk.1.1.1.1.1,⟨hk.1.1.2,hk.1.2⟩⟩⟩⟩)⟩
     have n7_ : Aside0 (Kd.R (Kd.int .i64) 3 ((((w27.setCell ⟨gb532,0,none⟩ (.bool t521)).setCell ⟨gb532,1,none⟩ (.slice Ao31 t522.length co31)).setCell ⟨gb532,2,none⟩ (.slice Ao32 t525.length co32)).setCell ⟨gb532,3,none⟩ (.slice Ao33 t528.length co33)) w.heap.size (fun k_=>some k_ ≠ (.slice Ao15 t499.length co15 : Value).ownBlock ∧ some k_ ≠ (.slice Ao33 t528.length co33 : Value).ownBlock) (.slice Ao25 t516.length co25) t516):=⟨by (with_reducible repeat (first | apply rA_ | apply rN_ | apply rD_));exact Kd.R_mono (Kd.R_far (p:=⟨gb532,3,none⟩) (Kd.R_far (p:=⟨gb532,2,none⟩) (Kd.R_far (p:=⟨gb532,1,none⟩) (Kd.R_far (p:=⟨gb532,0,none⟩) (Kd.R_types HO518.out BK532.out (by decide)) (fun _ hk=>hk.2) (.bool t521)) (fun _ hk=>hk.2) (.slice Ao31 t522.length co31)) (fun _ hk=>hk.2) (.slice Ao32 t525.length co32)) (fun _ hk=>hk.2) (.slice Ao33 t528.length co33)) (fun _ hk=>⟨hk.1.1.2,hk.1.2⟩)⟩
     have n8_ : Aside0 (Kd.R Kd.string 9 ((((w27.setCell ⟨gb532,0,none⟩ (.bool t521)).setCell ⟨gb532,1,none⟩ (.slice Ao31 t522.length co31)).setCell ⟨gb532,2,none⟩ (.slice Ao32 t525.length co32)).setCell ⟨gb532,3,none⟩ (.slice Ao33 t528.length co33)) w.heap.size (fun k_=>some k_ ≠ (.slice Ao13 t493.length co13 : Value).ownBlock ∧ some k_ ≠ (.slice Ao14 t496.length co14 : Value).ownBlock ∧ some k_ ≠ (.slice Ao23 t510.length co23 : Value).ownBlock ∧ some k_ ≠ (.slice Ao24 t513.length co24 : Value).ownBlock ∧ some k_ ≠ (.slice Ao32 t525.length co32 : Value).ownBlock) (.slice Ao31 t522.length co31) t522):=⟨by (with_reducible repeat (first | apply rA_ | apply rN_ | apply rD_));exact Kd.R_mono (Kd.R_far (p:=⟨gb532,3,none⟩) (Kd.R_far (p:=⟨gb532,2,none⟩) (Kd.R_far (p:=⟨gb532,1,none⟩) (Kd.R_far (p:=⟨gb532,0,none⟩) (Kd.R_types HO524.out BK532.out (by decide)) (fun _ hk=>hk.2) (.bool t521)) (fun _ hk=>hk.2) (.slice Ao31 t522.length co31)) (fun _ hk=>hk.2) (.slice Ao32 t525.length co32)) (fun _ hk=>hk.2) (.slice Ao33 t528.length co33)) (fun _ hk=>⟨hk.1.1.1.1.2,⟨hk.1.1.1.2,⟨hk.1.1.2,⟨hk.1.2,hk.1.1.1.1.1⟩⟩⟩⟩)⟩
     have n9_ : Aside0 (Kd.R Kd.string 9 ((((w27.setCell ⟨gb532,0,none⟩ (.bool t521)).setCell ⟨gb532,1,none⟩ (.slice Ao31 t522.length co31)).setCell ⟨gb532,2,none⟩ (.slice Ao32 t525.length co32)).setCell ⟨gb532,3,none⟩ (.slice Ao33 t528.length co33)) w.heap.size (fun k_=>some k_ ≠ (.slice Ao13 t493.length co13 : Value).ownBlock ∧ some k_ ≠ (.slice Ao14 t496.length co14 : Value).ownBlock ∧ some k_ ≠ (.slice Ao23 t510.length co23 : Value).ownBlock ∧ some k_ ≠ (.slice Ao24 t513.length co24 : Value).ownBlock ∧ some k_ ≠ (.slice Ao31 t522.length co31 : Value).ownBlock) (.slice Ao32 t525.length co32) t525):=⟨by (with_reducible repeat (first | apply rA_ | apply rN_ | apply rD_));exact Kd.R_mono (Kd.R_far (p:=⟨gb532,3,none⟩) (Kd.R_far (p:=⟨gb532,2,none⟩) (Kd.R_far (p:=⟨gb532,1,none⟩) (Kd.R_far (p:=⟨gb532,0,none⟩) (Kd.R_types HO527.out BK532.out (by decide)) (fun _ hk=>hk.2) (.bool t521)) (fun _ hk=>hk.2) (.slice Ao31 t522.length co31)) (fun _ hk=>hk.2) (.slice Ao32 t525.length co32)) (fun _ hk=>hk.2) (.slice Ao33 t528.length co33)) (fun _ hk=>⟨hk.1.1.1.1.2,⟨hk.1.1.1.2,⟨hk.1.1.2,⟨hk.1.2,hk.1.1.1.1.1⟩⟩⟩⟩)⟩
     have n10_ : Aside0 (Kd.R (Kd.int .i64) 3 ((((w27.setCell ⟨gb532,0,none⟩ (.bool t521)).setCell ⟨gb532,1,none⟩ (.slice Ao31 t522.length co31)).setCell ⟨gb532,2,none⟩ (.slice Ao32 t525.length co32)).setCell ⟨gb532,3,none⟩ (.slice Ao33 t528.length co33)) w.heap.size (fun k_=>some k_ ≠ (.slice Ao15 t499.length co15 : Value).ownBlock ∧ some k_ ≠ (.slice Ao25 t516.length co25 : Value).ownBlock) (.slice Ao33 t528.length co33) t528):=⟨by (with_reducible repeat (first | apply rA_ | apply rN_ | apply rD_));exact Kd.R_mono (Kd.R_far (p:=⟨gb532,3,none⟩) (Kd.R_far (p:=⟨gb532,2,none⟩) (Kd.R_far (p:=⟨gb532,1,none⟩) (Kd.R_far (p:=⟨gb532,0,none⟩) (Kd.R_types HO530.out BK532.out (by decide)) (fun _ hk=>hk.2) (.bool t521)) (fun _ hk=>hk.2) (.slice Ao31 t522.length co31)) (fun _ hk=>hk.2) (.slice Ao32 t525.length co32)) (fun _ hk=>hk.2) (.slice Ao33 t528.length co33)) (fun _ hk=>⟨hk.1.1.2,hk.1.2⟩)⟩
     have n11_ : Aside0 (((((w27.setCell ⟨gb532,0,none⟩ (.bool t521)).setCell ⟨gb532,1,none⟩ (.slice Ao31 t522.length co31)).setCell ⟨gb532,2,none⟩ (.slice Ao32 t525.length co32)).setCell ⟨gb532,3,none⟩ (.slice Ao33 t528.length co33)).heap[gb502]? = some (.cells #[.bool t492,.slice Ao13 t493.length co13,.slice Ao14 t496.length co14,.slice Ao15 t499.length co15] 29 (0,0))):=⟨by exact kW_ BK502⟩
     have n12_ : Aside0 (((((w27.setCell ⟨gb532,0,none⟩ (.bool t521)).setCell ⟨gb532,1,none⟩ (.slice Ao31 t522.length co31)).setCell ⟨gb532,2,none⟩ (.slice Ao32 t525.length co32)).setCell ⟨gb532,3,none⟩ (.slice Ao33 t528.length co33)).heap[gb520]? = some (.cells #[.bool t509,.slice Ao23 t510.length co23,.slice Ao24 t513.length co24,.slice Ao25 t516.length co25] 29 (0,0))):=⟨by exact kW_ BK520⟩
     have n13_ : Aside0 (((((w27.setCell ⟨gb532,0,none⟩ (.bool t521)).setCell ⟨gb532,1,none⟩ (.slice Ao31 t522.length co31)).setCell ⟨gb532,2,none⟩ (.slice Ao32 t525.length co32)).setCell ⟨gb532,3,none⟩ (.slice Ao33 t528.length co33)).heap[gb532]? = some (.cells #[.bool t521,.slice Ao31 t522.length co31,.slice Ao32 t525.length co32,.slice Ao33 t528.length co33] 29 (0,0))):=⟨by (with_reducible repeat (first | refine kN_ ?_ _ | refine kD_ ?_ | refine kA_ ?_ _));refine kP_ (cs:=#[.bool t521,.slice Ao31 t522.length co31,.slice Ao32 t525.length co32,.slice none 0 0]) ?_ 3 _ rfl;(with_reducible repeat (first | refine kN_ ?_ _ | refine kD_ ?_ | refine kA_ ?_ _));refine kP_ (cs:=#[.bool t521,.slice Ao31 t522.length co31,.slice none 0 0,.slice none 0 0]) ?_ 2 _ rfl;(with_reducible repeat (first | refine kN_ ?_ _ | refine kD_ ?_ | refine kA_ ?_ _));refine kP_ (cs:=#[.bool t521,.slice none 0 0,.slice none 0 0,.slice none 0 0]) ?_ 1 _ rfl;(with_reducible repeat (first | refine kN_ ?_ _ | refine kD_ ?_ | refine kA_ ?_ _));refine kP_ (cs:=#[.bool false,.slice none 0 0,.slice none 0 0,.slice none 0 0]) ?_ 0 _ rfl;exact kZ_ BK532⟩
     have n14_ : Aside0 (Below w.heap.size w ((((w27.setCell ⟨gb532,0,none⟩ (.bool t521)).setCell ⟨gb532,1,none⟩ (.slice Ao31 t522.length co31)).setCell ⟨gb532,2,none⟩ (.slice Ao32 t525.length co32)).setCell ⟨gb532,3,none⟩ (.slice Ao33 t528.length co33))):=⟨by exact bZ_ HB⟩
     clear HO495 HO498 HO501 HO505 HO508 HO512 HO515 HO518 HO524 HO527 HO530 BK502 BK520 BK532 HB
     generalize ((((w27.setCell ⟨gb532,0,none⟩ (.bool t521)).setCell ⟨gb532,1,none⟩ (.slice Ao31 t522.length co31)).setCell ⟨gb532,2,none⟩ (.slice Ao32 t525.length co32)).setCell ⟨gb532,3,none⟩ (.slice Ao33 t528.length co33)) = w62 at n0_ n1_ n2_ n3_ n4_ n5_ n6_ n7_ n8_ n9_ n10_ n11_ n12_ n13_ n14_ ⊢
     have HO495:=n0_
     have HO498:=n1_
     have HO501:=n2_
     have HO505:=n3_
     have HO508:=n4_
     have HO512:=n5_
     have HO515:=n6_
     have HO518:=n7_
     have HO524:=n8_
     have HO527:=n9_
     have HO530:=n10_
     have BK502:=n11_
     have BK520:=n12_
     have BK532:=n13_
     have HB:=n14_
     clear n0_ n1_ n2_ n3_ n4_ n5_ n6_ n7_ n8_ n9_ n10_ n11_ n12_ n13_ n14_
     have n0_:=aM_ (rD_ HO495.out)
     have n1_:=aM_ (rD_ HO498.out)
     have n2_:=aM_ (rD_ HO501.out)
     have n3_:=aM_ (rD_ HO505.out)
     have n4_:=aM_ (rD_ HO508.out)
     have n5_:=aM_ (rD_ HO512.out)
     have n6_:=aM_ (rD_ HO515.out)
     have n7_:=aM_ (rD_ HO518.out)
     have n8_:=aM_ (rD_ HO524.out)
     have n9_:=aM_ (rD_ HO527.out)
     have n10_:=aM_ (rD_ HO530.out)
     have n11_:=aM_ (kD_ BK502.out)
     have n12_:=aM_ (kD_ BK520.out)
     have n13_:=aM_ (kD_ BK532.out)
     have n14_:=aM_ (bD_ HB.out)
     clear HO495 HO498 HO501 HO505 HO508 HO512 HO515 HO518 HO524 HO527 HO530 BK502 BK520 BK532 HB
     have HO495:=n0_
     have HO498:=n1_
     have HO501:=n2_
     have HO505:=n3_
     have HO508:=n4_
     have HO512:=n5_
     have HO515:=n6_
     have HO518:=n7_
     have HO524:=n8_
     have HO527:=n9_
     have HO530:=n10_
     have BK502:=n11_
     have BK520:=n12_
     have BK532:=n13_
     have HB:=n14_
     clear n0_ n1_ n2_ n3_ n4_ n5_ n6_ n7_ n8_ n9_ n10_ n11_ n12_ n13_ n14_
     refine start_ (n:=25) (S:=fun w'=>w'.cell? ⟨gb502,0,none⟩ = some (.bool t492) ∧ w'.cell? ⟨gb502,1,none⟩ = some (.slice Ao13 t493.length co13) ∧ w'.cell? ⟨gb502,2,none⟩ = some (.slice Ao14 t496.length co14) ∧ w'.cell? ⟨gb502,3,none⟩ = some (.slice Ao15 t499.length co15)) (ds:=[]) (tb_ 0 25) (by kernel_rfl) rfl rfl ⟨(kC_ BK502.out 0).trans rfl,(kC_ BK502.out 1).trans rfl,(kC_ BK502.out 2).trans rfl,(kC_ BK502.out 3).trans rfl⟩ (fun hHeld=>?_);refine with_tabW laws_FnNodes.tab8 laws_FnNodes.bits8 (fun HT_ HW_=>?_)
     generalize w62.drew = w63 at HO495 HO498 HO501 HO505 HO508 HO512 HO515 HO518 HO524 HO527 HO530 BK502 BK520 BK532 HB hHeld ⊢
     refine pure_ (i:=0) (N:=some 30) (v:=?_) (a':=?_) (tb_ 1 24) rfl rfl (any_of HT_.out (by kernel_rfl)) (fun _ _ _ h=>h) (Or.inl ⟨by rfl,?_⟩) ?_ ?_
     rotate_left
     ·intro w'
      go_simp
      with_reducible rfl
     rotate_left
     ·simp only [Act.put,sI_,sZ_,sS_,i64_w,i32_w]
      rfl
     refine pure_ (i:=1) (N:=some 31) (v:=?_) (a':=?_) (tb_ 2 23) rfl rfl (any_of HT_.out (by kernel_rfl)) (fun _ _ _ h=>h) (Or.inl ⟨by rfl,?_⟩) ?_ ?_
     rotate_left
     ·intro w'
      go_simp
      with_reducible rfl
     rotate_left
     ·simp only [Act.put,sI_,sZ_,sS_,i64_w,i32_w]
      rfl
     refine pure_ (i:=2) (N:=some 32) (v:=?_) (a':=?_) (tb_ 3 22) rfl rfl (any_of HT_.out (by kernel_rfl)) (fun _ _ _ h=>h) (Or.inl ⟨by rfl,?_⟩) ?_ ?_
     rotate_left
     ·intro w'
      go_simp
      with_reducible rfl
     rotate_left
     ·simp only [Act.put,sI_,sZ_,sS_,i64_w,i32_w]
      rfl
     refine pure_ (i:=3) (N:=some 33) (v:=?_) (a':=?_) (tb_ 4 21) rfl rfl (any_of HT_.out (by kernel_rfl)) (fun _ _ _ h=>h) (Or.inl ⟨by rfl,?_⟩) ?_ ?_
     rotate_left
     ·intro w'
      go_simp
      with_reducible rfl
     rotate_left
     ·simp only [Act.put,sI_,sZ_,sS_,i64_w,i32_w]
      rfl
     refine pure_ (i:=4) (N:=some 34) (v:=?_) (a':=?_) (tb_ 5 20) rfl rfl (any_of HT_.out (by kernel_rfl)) (fun _ _ _ h=>h) (Or.inl ⟨by rfl,?_⟩) ?_ ?_
     rotate_left
     ·intro w'
      go_simp
      with_reducible rfl
     rotate_left
     ·simp only [Act.put,sI_,sZ_,sS_,i64_w,i32_w]
      rfl
     refine pure_ (i:=5) (N:=some 35) (v:=?_) (a':=?_) (tb_ 6 19) rfl rfl (any_of HT_.out (by kernel_rfl)) (fun _ _ _ h=>h) (Or.inl ⟨by rfl,?_⟩) ?_ ?_
     rotate_left
     ·intro w'
      go_simp
      with_reducible rfl
     rotate_left
     ·simp only [Act.put,sI_,sZ_,sS_,i64_w,i32_w]
      rfl
     refine pure_ (i:=6) (N:=some 36) (v:=undef) (a':=?_) (tb_ 7 18) rfl rfl (any_of HT_.out (by kernel_rfl)) (fun _ _ _ h=>h) (Or.inr ⟨by rfl,rfl⟩) ?_ ?_
     rotate_left
     ·simp only [Act.put,sI_,sZ_,sS_,i64_w,i32_w]
      rfl
     refine pure_ (i:=7) (N:=some 37) (v:=undef) (a':=?_) (tb_ 8 17) rfl rfl (any_of HT_.out (by kernel_rfl)) (fun _ _ _ h=>h) (Or.inr ⟨by rfl,rfl⟩) ?_ ?_
     rotate_left
     ·simp only [Act.put,sI_,sZ_,sS_,i64_w,i32_w]
      rfl
     refine pure_ (i:=8) (N:=some 38) (v:=undef) (a':=?_) (tb_ 9 16) rfl rfl (any_of HT_.out (by kernel_rfl)) (fun _ _ _ h=>h) (Or.inr ⟨by rfl,rfl⟩) ?_ ?_
     rotate_left
     ·simp only [Act.put,sI_,sZ_,sS_,i64_w,i32_w]
      rfl
     refine pure_ (i:=9) (N:=some 39) (v:=undef) (a':=?_) (tb_ 10 15) rfl rfl (any_of HT_.out (by kernel_rfl)) (fun _ _ _ h=>h) (Or.inr ⟨by rfl,rfl⟩) ?_ ?_
     rotate_left
     ·simp only [Act.put,sI_,sZ_,sS_,i64_w,i32_w]
      rfl
     refine pure_ (i:=10) (N:=some 40) (v:=undef) (a':=?_) (tb_ 11 14) rfl rfl (any_of HT_.out (by kernel_rfl)) (fun _ _ _ h=>h) (Or.inr ⟨by rfl,rfl⟩) ?_ ?_
     rotate_left
     ·simp only [Act.put,sI_,sZ_,sS_,i64_w,i32_w]
      rfl
     refine pure_ (i:=11) (N:=some 41) (v:=undef) (a':=?_) (tb_ 12 13) rfl rfl (any_of HT_.out (by kernel_rfl)) (fun _ _ _ h=>h) (Or.inr ⟨by rfl,rfl⟩) ?_ ?_
     rotate_left
     ·simp only [Act.put,sI_,sZ_,sS_,i64_w,i32_w]
      rfl
     refine pure_ (i:=12) (N:=some 42) (v:=undef) (a':=?_) (tb_ 13 12) rfl rfl (any_of HT_.out (by kernel_rfl)) (fun _ _ _ h=>h) (Or.inr ⟨by rfl,rfl⟩) ?_ ?_
     rotate_left
     ·simp only [Act.put,sI_,sZ_,sS_,i64_w,i32_w]
      rfl
     refine pure_ (i:=13) (N:=some 43) (v:=undef) (a':=?_) (tb_ 14 11) rfl rfl (any_of HT_.out (by kernel_rfl)) (fun _ _ _ h=>h) (Or.inr ⟨by rfl,rfl⟩) ?_ ?_
     rotate_left
     ·simp only [Act.put,sI_,sZ_,sS_,i64_w,i32_w]
      rfl
     refine pure_ (i:=14) (N:=some 44) (v:=undef) (a':=?_) (tb_ 15 10) rfl rfl (any_of HT_.out (by kernel_rfl)) (fun _ _ _ h=>h) (Or.inr ⟨by rfl,rfl⟩) ?_ ?_
     rotate_left
     ·simp only [Act.put,sI_,sZ_,sS_,i64_w,i32_w]
      rfl
     refine pure_ (i:=15) (N:=some 45) (v:=undef) (a':=?_) (tb_ 16 9) rfl rfl (any_of HT_.out (by kernel_rfl)) (fun _ _ _ h=>h) (Or.inr ⟨by rfl,rfl⟩) ?_ ?_
     rotate_left
     ·simp only [Act.put,sI_,sZ_,sS_,i64_w,i32_w]
      rfl
     refine pure_ (i:=16) (N:=some 46) (v:=?_) (a':=?_) (tb_ 17 8) rfl rfl (any_of HT_.out (by kernel_rfl)) (fun _ _ _ h=>h) (Or.inl ⟨by rfl,?_⟩) ?_ ?_
     rotate_left
     ·intro w'
      go_simp
      with_reducible rfl
     rotate_left
     ·simp only [Act.put,sI_,sZ_,sS_,i64_w,i32_w]
      rfl
     refine pure_ (i:=17) (N:=some 47) (v:=?_) (a':=?_) (tb_ 18 7) rfl rfl (any_of HT_.out (by kernel_rfl)) (fun _ _ _ h=>h) (Or.inl ⟨by rfl,?_⟩) ?_ ?_
     rotate_left
     ·intro w'
      go_simp
      with_reducible rfl
     rotate_left
     ·simp only [Act.put,sI_,sZ_,sS_,i64_w,i32_w]
      rfl
     refine pure_ (i:=18) (N:=some 48) (v:=?_) (a':=?_) (tb_ 19 6) rfl rfl (any_of HT_.out (by kernel_rfl)) (fun _ _ _ h=>h) (Or.inl ⟨by rfl,?_⟩) ?_ ?_
     rotate_left
     ·intro w'
      go_simp
      with_reducible rfl
     rotate_left
     ·simp only [Act.put,sI_,sZ_,sS_,i64_w,i32_w]
      rfl
     refine take_ (i:=19) (N:=some 49) (v:=?_) (a':=?_) (tb_ 20 5) rfl rfl (take_ofW HT_.out HW_.out (by kernel_rfl)) (fun _ _ _ h=>h) (Or.inl ⟨by rfl,?_⟩) hHeld ?_ ?_
     rotate_left
     ·rintro w' ⟨s0,s1,s2,s3⟩
      go_simp
      with_reducible rfl
     rotate_left
     ·simp only [Act.put,sI_,sZ_,sS_,i64_w,i32_w]
      rfl
     refine take_ (i:=21) (N:=some 51) (v:=?_) (a':=?_) #[true,true,true,true,true,true,true,true,true,true,true,true,true,true,true,true,true,true,true,true,false,true,false,false,false] rfl rfl (take_ofW HT_.out HW_.out (by kernel_rfl)) (fun _ _ _ h=>h) (Or.inl ⟨by rfl,?_⟩) hHeld ?_ ?_
     rotate_left
     ·rintro w' ⟨s0,s1,s2,s3⟩
      go_simp
      with_reducible rfl
     rotate_left
     ·simp only [Act.put,sI_,sZ_,sS_,i64_w,i32_w]
      rfl
     refine one_ (i:=20) (N:=some 50) (tb_ 22 3) rfl rfl (one_of HT_.out (by kernel_rfl)) (by decide) (fun K hK=>?_)
     refine goes_ Try.func30 (by kernel_rfl) rfl #[.agg #[.bool t492,.slice Ao13 t493.length co13,.slice Ao14 t496.length co14,.slice Ao15 t499.length co15]] (by rfl) rfl rfl (by (try simp only [mA_,mC_,mN_]);first | done | rfl | (simp only [lD_,lT_];rfl)) ?_
     with_reducible refine (impl_SizeOf.calls k t492 _ _ t493 _ _ t496 _ _ t499 t540 _ ?side1 ?side2 ?side3 ?side4 ?side5 ?side6 A60.out).mono ?_
     (case side1=>repeat (first | exact (Kd.R_reads' HO495.out).2.2 | (with_reducible refine cA_ ?_ _) | (with_reducible refine cN_ ?_ _) | (with_reducible refine cD_ ?_)))
     (case side2=>exact (Kd.R_reads' HO495.out).2.1)
     (case side3=>repeat (first | exact (Kd.R_reads' HO498.out).2.2 | (with_reducible refine cA_ ?_ _) | (with_reducible refine cN_ ?_ _) | (with_reducible refine cD_ ?_)))
     (case side4=>exact (Kd.R_reads' HO498.out).2.1)
     (case side5=>repeat (first | exact (Kd.R_reads' HO501.out).2.2 | (with_reducible refine cA_ ?_ _) | (with_reducible refine cN_ ?_ _) | (with_reducible refine cD_ ?_)))
     (case side6=>exact (Kd.R_reads' HO501.out).2.1)
     rintro e w64 ⟨rfl,hb⟩
     refine ⟨_,rfl,?_⟩
     have n0_:=aM_ (Kd.R_below (by exact rZ_ HO495) hb)
     have n1_:=aM_ (Kd.R_below (by exact rZ_ HO498) hb)
     have n2_:=aM_ (Kd.R_below (by exact rZ_ HO501) hb)
     have n3_:=aM_ (Kd.R_below (by exact rZ_ HO505) hb)
     have n4_:=aM_ (Kd.R_below (by exact rZ_ HO508) hb)
     have n5_:=aM_ (Kd.R_below (by exact rZ_ HO512) hb)
     have n6_:=aM_ (Kd.R_below (by exact rZ_ HO515) hb)
     have n7_:=aM_ (Kd.R_below (by exact rZ_ HO518) hb)
     have n8_:=aM_ (Kd.R_below (by exact rZ_ HO524) hb)
     have n9_:=aM_ (Kd.R_below (by exact rZ_ HO527) hb)
     have n10_:=aM_ (Kd.R_below (by exact rZ_ HO530) hb)
     have n11_:=aM_ (blk_below (g:=gb502) (o:=.cells #[.bool t492,.slice Ao13 t493.length co13,.slice Ao14 t496.length co14,.slice Ao15 t499.length co15] 29 (0,0)) (by exact kZ_ BK502) hb)
     have n12_:=aM_ (blk_below (g:=gb520) (o:=.cells #[.bool t509,.slice Ao23 t510.length co23,.slice Ao24 t513.length co24,.slice Ao25 t516.length co25] 29 (0,0)) (by exact kZ_ BK520) hb)
     have n13_:=aM_ (blk_below (g:=gb532) (o:=.cells #[.bool t521,.slice Ao31 t522.length co31,.slice Ao32 t525.length co32,.slice Ao33 t528.length co33] 29 (0,0)) (by exact kZ_ BK532) hb)
     have n14_:=aM_ (bT_ (by exact bZ_ HB) hb)
     clear HO495 HO498 HO501 HO505 HO508 HO512 HO515 HO518 HO524 HO527 HO530 BK502 BK520 BK532 HB
     have HO495:=n0_
     have HO498:=n1_
     have HO501:=n2_
     have HO505:=n3_
     have HO508:=n4_
     have HO512:=n5_
     have HO515:=n6_
     have HO518:=n7_
     have HO524:=n8_
     have HO527:=n9_
     have HO530:=n10_
     have BK502:=n11_
     have BK520:=n12_
     have BK532:=n13_
     have HB:=n14_
     clear n0_ n1_ n2_ n3_ n4_ n5_ n6_ n7_ n8_ n9_ n10_ n11_ n12_ n13_ n14_ hb
     skip
     skip
     skip
     refine hK.out _ _ ⟨(kC_ BK502.out 0).trans rfl,(kC_ BK502.out 1).trans rfl,(kC_ BK502.out 2).trans rfl,(kC_ BK502.out 3).trans rfl⟩ (fun hHeld=>?_)
     clear hK K
     refine norm_ (a':=?_) ?_ ?_
     rotate_left
     ·show Act.put _ (some 50) _ = _
      simp only [Act.put,sI_,sZ_,sS_,i64_w,i32_w]
      rfl
     refine one_ (i:=22) (N:=some 52) (tb_ 23 2) rfl rfl (one_of HT_.out (by kernel_rfl)) (by decide) (fun K hK=>?_)
     refine goes_ Try.func31 (by kernel_rfl) rfl #[.agg #[.bool t492,.slice Ao13 t493.length co13,.slice Ao14 t496.length co14,.slice Ao15 t499.length co15]] (by rfl) rfl rfl (by (try simp only [mA_,mC_,mN_]);first | done | rfl | (simp only [lD_,lT_];rfl)) ?_
     with_reducible refine (spec_SizeOf.calls k t492 _ _ t493 _ _ t496 _ _ t499 t541 _ ?side1 ?side2 ?side3 ?side4 ?side5 ?side6 A61.out).mono ?_
     (case side1=>repeat (first | exact (Kd.R_reads' HO495.out).2.2 | (with_reducible refine cA_ ?_ _) | (with_reducible refine cN_ ?_ _) | (with_reducible refine cD_ ?_)))
     (case side2=>exact (Kd.R_reads' HO495.out).2.1)
     (case side3=>repeat (first | exact (Kd.R_reads' HO498.out).2.2 | (with_reducible refine cA_ ?_ _) | (with_reducible refine cN_ ?_ _) | (with_reducible refine cD_ ?_)))
     (case side4=>exact (Kd.R_reads' HO498.out).2.1)
     (case side5=>repeat (first | exact (Kd.R_reads' HO501.out).2.2 | (with_reducible refine cA_ ?_ _) | (with_reducible refine cN_ ?_ _) | (with_reducible refine cD_ ?_)))
     (case side6=>exact (Kd.R_reads' HO501.out).2.1)
     rintro e w65 ⟨rfl,hb⟩
     refine ⟨_,rfl,?_⟩
     have n0_:=aM_ (Kd.R_below (by exact rZ_ HO495) hb)
     have n1_:=aM_ (Kd.R_below (by exact rZ_ HO498) hb)
     have n2_:=aM_ (Kd.R_below (by exact rZ_ HO501) hb)
     have n3_:=aM_ (Kd.R_below (by exact rZ_ HO505) hb)
     have n4_:=aM_ (Kd.R_below (by exact rZ_ HO508) hb)
     have n5_:=aM_ (Kd.R_below (by exact rZ_ HO512) hb)
     have n6_:=aM_ (Kd.R_below (by exact rZ_ HO515) hb)
     have n7_:=aM_ (Kd.R_below (by exact rZ_ HO518) hb)
     have n8_:=aM_ (Kd.R_below (by exact rZ_ HO524) hb)
     have n9_:=aM_ (Kd.R_below (by exact rZ_ HO527) hb)
     have n10_:=aM_ (Kd.R_below (by exact rZ_ HO530) hb)
     have n11_:=aM_ (blk_below (g:=gb502) (o:=.cells #[.bool t492,.slice Ao13 t493.length co13,.slice Ao14 t496.length co14,.slice Ao15 t499.length co15] 29 (0,0)) (by exact kZ_ BK502) hb)
     have n12_:=aM_ (blk_below (g:=gb520) (o:=.cells #[.bool t509,.slice Ao23 t510.length co23,.slice Ao24 t513.length co24,.slice Ao25 t516.length co25] 29 (0,0)) (by exact kZ_ BK520) hb)
     have n13_:=aM_ (blk_below (g:=gb532) (o:=.cells #[.bool t521,.slice Ao31 t522.length co31,.slice Ao32 t525.length co32,.slice Ao33 t528.length co33] 29 (0,0)) (by exact kZ_ BK532) hb)
     have n14_:=aM_ (bT_ (by exact bZ_ HB) hb)
     clear HO495 HO498 HO501 HO505 HO508 HO512 HO515 HO518 HO524 HO527 HO530 BK502 BK520 BK532 HB
     have HO495:=n0_
     have HO498:=n1_
     have HO501:=n2_
     have HO505:=n3_
     have HO508:=n4_
     have HO512:=n5_
     have HO515:=n6_
     have HO518:=n7_
     have HO524:=n8_
     have HO527:=n9_
     have HO530:=n10_
     have BK502:=n11_
     have BK520:=n12_
     have BK532:=n13_
     have HB:=n14_
     clear n0_ n1_ n2_ n3_ n4_ n5_ n6_ n7_ n8_ n9_ n10_ n11_ n12_ n13_ n14_ hb
     skip
     skip
     skip
     refine hK.out _ _ ⟨(kC_ BK502.out 0).trans rfl,(kC_ BK502.out 1).trans rfl,(kC_ BK502.out 2).trans rfl,(kC_ BK502.out 3).trans rfl⟩ (fun hHeld=>?_)
     clear hK K
     refine norm_ (a':=?_) ?_ ?_
     rotate_left
     ·show Act.put _ (some 52) _ = _
      simp only [Act.put,sI_,sZ_,sS_,i64_w,i32_w]
      rfl
     refine pure_ (i:=23) (N:=some 53) (v:=?_) (a':=?_) (tb_ 24 1) rfl rfl (any_of HT_.out (by kernel_rfl)) (fun _ _ _ h=>h) (Or.inl ⟨by rfl,?_⟩) ?_ ?_
     rotate_left
     ·intro w'
      go_simp
      with_reducible rfl
     rotate_left
     ·simp only [Act.put,sI_,sZ_,sS_,i64_w,i32_w]
      rfl
     refine pure_ (i:=24) (N:=some 54) (v:=?_) (a':=?_) (tb_ 25 0) rfl rfl (any_of HT_.out (by kernel_rfl)) (fun _ _ _ h=>h) (Or.inl ⟨by rfl,?_⟩) ?_ ?_
     rotate_left
     ·intro w'
      go_simp
      with_reducible rfl
     rotate_left
     ·simp only [Act.put,sI_,sZ_,sS_,i64_w,i32_w]
      rfl
     refine done_ (done_of HT_.out (by kernel_rfl)) ?_
     try go_wp2
     (first | go_meet | (refine Met.intro ?_;go_step;(repeat apply Exists.intro);refine ⟨?rel,?eq⟩;(case eq=>(try simp only [c29b0]);(try simp only [c34b0]);(try simp only [c34b0]);rfl)))
     case rel=>exact ⟨_,((t540 != t541)),(by first | rfl | (simp;done) | (simp [*];done)),H', ⟨by first | omega | exact Nat.le_refl _⟩,⟨by (with_reducible repeat (first | apply rA_ | apply rN_ | apply rD_));exact Kd.R_mono HO505.out (fun _ hk=>trivial)⟩,⟨by exact rZ_ HO495⟩,⟨by exact rZ_ HO498⟩,⟨by exact rZ_ HO501⟩,⟨by exact rZ_ HO512⟩,⟨by exact rZ_ HO515⟩,⟨by exact rZ_ HO518⟩,⟨by exact rZ_ HO524⟩,⟨by exact rZ_ HO527⟩,⟨by exact rZ_ HO530⟩,⟨by exact kZ_ BK502⟩,⟨by exact kZ_ BK520⟩,⟨by exact kZ_ BK532⟩,⟨by exact bZ_ HB⟩⟩
  case rest =>
   clear HC9
   obtain ⟨kq,x54_8,rfl,HA,HJ8,HO_4,HO_503001,HO_503002,HO_503003,HO_521001,HO_521002,HO_521003,HO_533001,HO_533002,HO_533003,BK502,BK520,BK532,HB⟩:=hcut
   cases kq with
   | zero=>exact absurd HA.out (by simp [laws_FnNodes.j0])
   | succ kj8 =>
    have H:=HA.out
    clear HA
    simp only [laws_FnNodes.j0] at H
    by_cases c66 : x54_8 = true
    ·subst c66
     have H1 : (some false) = some r:=by rw [if_pos rfl] at H;exact H
     clear H
     have H:=H1
     clear H1
     exact absurd (H.trans (congrArg some hr_.out)) (by simp)
    ·replace c66:=Bool.eq_false_iff.mpr c66
     subst c66
     have H1 : ((spec_NodeOk.f kj8 t492 t493 t496 t499).bind fun t542=>(if t542 = true then ((impl_GetNode.f kj8 t503).bind fun bt544=>(if bt544.2.2.2.2 = true then ((impl_SameNode.f kj8 bt544.1 bt544.2.1 bt544.2.2.1 bt544.2.2.2.1 t492 t493 t496 t499).bind fun t556=>(if t556 = true then ((impl_NodeOk.f kj8 t492 t493 t496 t499).bind fun t557=>(if t557 = true then ((impl_SizeOf.f kj8 t492 t493 t496 t499).bind fun t558=>(if (t503.length : Int) = t558 then (some (decide ((t503.length : Int) ≤ 240))) else (some false))) else (some false))) else (some false))) else (some false))) else (if (t503.length : Int) = 0 then ((impl_NodeOk.f kj8 t492 t493 t496 t499).bind fun t543=>(some (!t543))) else (some false)))) = some r:=by rw [if_neg (show ¬ (false = true) by decide)] at H;exact H
     clear H
     have H:=H1
     clear H1
     replace H:=oB_ H
     obtain ⟨t542,A670,H⟩:=H
     replace H : (if t542 = true then ((impl_GetNode.f kj8 t503).bind fun bt544=>(if bt544.2.2.2.2 = true then ((impl_SameNode.f kj8 bt544.1 bt544.2.1 bt544.2.2.1 bt544.2.2.2.1 t492 t493 t496 t499).bind fun t556=>(if t556 = true then ((impl_NodeOk.f kj8 t492 t493 t496 t499).bind fun t557=>(if t557 = true then ((impl_SizeOf.f kj8 t492 t493 t496 t499).bind fun t558=>(if (t503.length : Int) = t558 then (some (decide ((t503.length : Int) ≤ 240))) else (some false))) else (some false))) else (some false))) else (some false))) else (if (t503.length : Int) = 0 then ((impl_NodeOk.f kj8 t492 t493 t496 t499).bind fun t543=>(some (!t543))) else (some false))) = some r:=H
     have A67:=aM_ A670
     clear A670
     by_cases c68 : t542 = true
     ·subst c68
      have H1 : ((impl_GetNode.f kj8 t503).bind fun bt544=>(if bt544.2.2.2.2 = true then ((impl_SameNode.f kj8 bt544.1 bt544.2.1 bt544.2.2.1 bt544.2.2.2.1 t492 t493 t496 t499).bind fun t556=>(if t556 = true then ((impl_NodeOk.f kj8 t492 t493 t496 t499).bind fun t557=>(if t557 = true then ((impl_SizeOf.f kj8 t492 t493 t496 t499).bind fun t558=>(if (t503.length : Int) = t558 then (some (decide ((t503.length : Int) ≤ 240))) else (some false))) else (some false))) else (some false))) else (some false))) = some r:=by rw [if_pos rfl] at H;exact H
      clear H
      have H:=H1
      clear H1
      replace H:=oB_ H
      obtain ⟨⟨t544,t545,t548,t551,t554⟩,A690,H⟩:=H
      replace H : (if t554 = true then ((impl_SameNode.f kj8 t544 t545 t548 t551 t492 t493 t496 t499).bind fun t556=>(if t556 = true then ((impl_NodeOk.f kj8 t492 t493 t496 t499).bind fun t557=>(if t557 = true then ((impl_SizeOf.f kj8 t492 t493 t496 t499).bind fun t558=>(if (t503.length : Int) = t558 then (some (decide ((t503.length : Int) ≤ 240))) else (some false))) else (some false))) else (some false))) else (some false)) = some r:=H
      have A69:=aM_ A690
      clear A690
      by_cases c70 : t554 = true
      ·subst c70
       have H1 : ((impl_SameNode.f kj8 t544 t545 t548 t551 t492 t493 t496 t499).bind fun t556=>(if t556 = true then ((impl_NodeOk.f kj8 t492 t493 t496 t499).bind fun t557=>(if t557 = true then ((impl_SizeOf.f kj8 t492 t493 t496 t499).bind fun t558=>(if (t503.length : Int) = t558 then (some (decide ((t503.length : Int) ≤ 240))) else (some false))) else (some false))) else (some false))) = some r:=by rw [if_pos rfl] at H;exact H
       clear H
       have H:=H1
       clear H1
       replace H:=oB_ H
       obtain ⟨t556,A710,H⟩:=H
       replace H : (if t556 = true then ((impl_NodeOk.f kj8 t492 t493 t496 t499).bind fun t557=>(if t557 = true then ((impl_SizeOf.f kj8 t492 t493 t496 t499).bind fun t558=>(if (t503.length : Int) = t558 then (some (decide ((t503.length : Int) ≤ 240))) else (some false))) else (some false))) else (some false)) = some r:=H
       have A71:=aM_ A710
       clear A710
       by_cases c72 : t556 = true
       ·subst c72
        have H1 : ((impl_NodeOk.f kj8 t492 t493 t496 t499).bind fun t557=>(if t557 = true then ((impl_SizeOf.f kj8 t492 t493 t496 t499).bind fun t558=>(if (t503.length : Int) = t558 then (some (decide ((t503.length : Int) ≤ 240))) else (some false))) else (some false))) = some r:=by rw [if_pos rfl] at H;exact H
        clear H
        have H:=H1
        clear H1
        replace H:=oB_ H
        obtain ⟨t557,A730,H⟩:=H
        replace H : (if t557 = true then ((impl_SizeOf.f kj8 t492 t493 t496 t499).bind fun t558=>(if (t503.length : Int) = t558 then (some (decide ((t503.length : Int) ≤ 240))) else (some false))) else (some false)) = some r:=H
        have A73:=aM_ A730
        clear A730
        by_cases c74 : t557 = true
        ·subst c74
         have H1 : ((impl_SizeOf.f kj8 t492 t493 t496 t499).bind fun t558=>(if (t503.length : Int) = t558 then (some (decide ((t503.length : Int) ≤ 240))) else (some false))) = some r:=by rw [if_pos rfl] at H;exact H
         clear H
         have H:=H1
         clear H1
         replace H:=oB_ H
         obtain ⟨t558,A750,H⟩:=H
         replace H : (if (t503.length : Int) = t558 then (some (decide ((t503.length : Int) ≤ 240))) else (some false)) = some r:=H
         have A75:=aM_ A750
         clear A750
         by_cases c76 : (t503.length : Int) = t558
         ·rw [if_pos c76] at H
          have c76b0 : ((t503.length : Int) == t558) = true:=beq_iff_eq.mpr c76
          have c76b1 : ((t503.length : Int) != t558) = false:=bne_eq_false_iff_eq.mpr c76
          clear c76
          obtain rfl:=Option.some.inj H
          have hnb77:=NB502_520.out
          have hnc77:=NB520_502.out
          have hnb78:=NB502_532.out
          have hnc78:=NB532_502.out
          have hcz79_0 : wc.cell? ⟨gb502,0,none⟩ = some (.bool t492):=(kC_ BK502.out 0).trans rfl
          have hcz79_1 : wc.cell? ⟨gb502,1,none⟩ = some (.slice Ao13 t493.length co13):=(kC_ BK502.out 1).trans rfl
          have hcz79_2 : wc.cell? ⟨gb502,2,none⟩ = some (.slice Ao14 t496.length co14):=(kC_ BK502.out 2).trans rfl
          have hcz79_3 : wc.cell? ⟨gb502,3,none⟩ = some (.slice Ao15 t499.length co15):=(kC_ BK502.out 3).trans rfl
          have hfz79_0:=kF_ BK502.out 0
          have hfz79_1:=kF_ BK502.out 1
          have hfz79_2:=kF_ BK502.out 2
          have hfz79_3:=kF_ BK502.out 3
          go_wp2_with (first | ((with_reducible refine gate_callee (f:=32) rfl ?_);refine goesL_ (some 56) rfl rfl Try.func32 (by kernel_rfl) rfl #[.agg #[.bool t492,.slice Ao13 t493.length co13,.slice Ao14 t496.length co14,.slice Ao15 t499.length co15]] rfl (by (try simp only [mA_,mC_,mN_]);first | done | rfl | (simp only [lD_,lT_];rfl)) ?_;(with_reducible refine (spec_NodeOk.calls kj8 t492 _ _ t493 _ _ t496 _ _ t499 true _ ?side1 ?side2 ?side3 ?side4 ?side5 ?side6 A67.out).mono ?_);(case side1=>repeat (first | exact (Kd.R_reads' HO_503001.out).2.2 | (with_reducible refine cA_ ?_ _) | (with_reducible refine cN_ ?_ _) | (with_reducible refine cD_ ?_)));(case side2=>exact (Kd.R_reads' HO_503001.out).2.1);(case side3=>repeat (first | exact (Kd.R_reads' HO_503002.out).2.2 | (with_reducible refine cA_ ?_ _) | (with_reducible refine cN_ ?_ _) | (with_reducible refine cD_ ?_)));(case side4=>exact (Kd.R_reads' HO_503002.out).2.1);(case side5=>repeat (first | exact (Kd.R_reads' HO_503003.out).2.2 | (with_reducible refine cA_ ?_ _) | (with_reducible refine cN_ ?_ _) | (with_reducible refine cD_ ?_)));(case side6=>exact (Kd.R_reads' HO_503003.out).2.1);rintro e w80 ⟨rfl,hb⟩;refine ⟨_,rfl,?_⟩;have n0_:=aM_ (Kd.R_below (by exact rZ_ HO_4) hb);have n1_:=aM_ (Kd.R_below (by exact rZ_ HO_503001) hb);have n2_:=aM_ (Kd.R_below (by exact rZ_ HO_503002) hb);have n3_:=aM_ (Kd.R_below (by exact rZ_ HO_503003) hb);have n4_:=aM_ (Kd.R_below (by exact rZ_ HO_521001) hb);have n5_:=aM_ (Kd.R_below (by exact rZ_ HO_521002) hb);have n6_:=aM_ (Kd.R_below (by exact rZ_ HO_521003) hb);have n7_:=aM_ (Kd.R_below (by exact rZ_ HO_533001) hb);have n8_:=aM_ (Kd.R_below (by exact rZ_ HO_533002) hb);have n9_:=aM_ (Kd.R_below (by exact rZ_ HO_533003) hb);have n10_:=aM_ (blk_below (g:=gb502) (o:=.cells #[.bool t492,.slice Ao13 t493.length co13,.slice Ao14 t496.length co14,.slice Ao15 t499.length co15] 29 (0,0)) (by exact kZ_ BK502) hb);have n11_:=aM_ (blk_below (g:=gb520) (o:=.cells #[.bool t509,.slice Ao23 t510.length co23,.slice Ao24 t513.length co24,.slice Ao25 t516.length co25] 29 (0,0)) (by exact kZ_ BK520) hb);have n12_:=aM_ (blk_below (g:=gb532) (o:=.cells #[.bool t521,.slice Ao31 t522.length co31,.slice Ao32 t525.length co32,.slice Ao33 t528.length co33] 29 (0,0)) (by exact kZ_ BK532) hb);have n13_:=aM_ (bT_ (by exact bZ_ HB) hb);clear HO_4 HO_503001 HO_503002 HO_503003 HO_521001 HO_521002 HO_521003 HO_533001 HO_533002 HO_533003 BK502 BK520 BK532 HB;have HO_4:=n0_;have HO_503001:=n1_;have HO_503002:=n2_;have HO_503003:=n3_;have HO_521001:=n4_;have HO_521002:=n5_;have HO_521003:=n6_;have HO_533001:=n7_;have HO_533002:=n8_;have HO_533003:=n9_;have BK502:=n10_;have BK520:=n11_;have BK532:=n12_;have HB:=n13_;clear n0_ n1_ n2_ n3_ n4_ n5_ n6_ n7_ n8_ n9_ n10_ n11_ n12_ n13_ hb;obtain ⟨Ao81,co81,eo81⟩:=Kd.R_slice HO_4.out;subst eo81) | ((with_reducible refine gate_callee (f:=23) rfl ?_);refine goesL_ (some 68) rfl rfl Try.func23 (by kernel_rfl) rfl #[.slice Ao81 t503.length co81] rfl (by (try simp only [mA_,mC_,mN_]);first | done | rfl | (simp only [lD_,lT_];rfl)) ?_;(with_reducible refine (impl_GetNode.calls kj8 _ _ t503 t544 t545 t548 t551 true _ ?side1 ?side2 A69.out).mono ?_);(case side1=>repeat (first | exact (Kd.R_reads' HO_4.out).2.2 | (with_reducible refine cA_ ?_ _) | (with_reducible refine cN_ ?_ _) | (with_reducible refine cD_ ?_)));(case side2=>exact (Kd.R_reads' HO_4.out).2.1);rintro e w82 ⟨v546,v549,v552,rfl,ho0,ho1,ho2,hb⟩;refine ⟨_,rfl,?_⟩;have n0_:=aM_ (Kd.R_below (by exact rZ_ HO_4) hb);have n1_:=aM_ (Kd.R_mono (Kd.R_told (Kd.R_told (Kd.R_old (by exact rZ_ HO_503001) hb) (Kd.R_base ho0)) (Kd.R_base ho1)) (fun _ h_=>h_.1));have n2_:=aM_ (Kd.R_mono (Kd.R_told (Kd.R_told (Kd.R_old (by exact rZ_ HO_503002) hb) (Kd.R_base ho0)) (Kd.R_base ho1)) (fun _ h_=>h_.1));have n3_:=aM_ (Kd.R_elder' (by exact rZ_ HO_503003) (Kd.R_base ho2) hb);have n4_:=aM_ (Kd.R_mono (Kd.R_told (Kd.R_told (Kd.R_old (by exact rZ_ HO_521001) hb) (Kd.R_base ho0)) (Kd.R_base ho1)) (fun _ h_=>h_.1));have n5_:=aM_ (Kd.R_mono (Kd.R_told (Kd.R_told (Kd.R_old (by exact rZ_ HO_521002) hb) (Kd.R_base ho0)) (Kd.R_base ho1)) (fun _ h_=>h_.1));have n6_:=aM_ (Kd.R_elder' (by exact rZ_ HO_521003) (Kd.R_base ho2) hb);have n7_:=aM_ (Kd.R_mono (Kd.R_told (Kd.R_told (Kd.R_old (by exact rZ_ HO_533001) hb) (Kd.R_base ho0)) (Kd.R_base ho1)) (fun _ h_=>h_.1));have n8_:=aM_ (Kd.R_mono (Kd.R_told (Kd.R_told (Kd.R_old (by exact rZ_ HO_533002) hb) (Kd.R_base ho0)) (Kd.R_base ho1)) (fun _ h_=>h_.1));have n9_:=aM_ (Kd.R_elder' (by exact rZ_ HO_533003) (Kd.R_base ho2) hb);have n10_:=aM_ (Kd.R_lower (Kd.R_new' (Kd.R_new' (Kd.R_new' (Kd.R_new' (Kd.R_new' (Kd.R_new' ho0 (Kd.R_lt (by exact rZ_ HO_503001))) (Kd.R_lt (by exact rZ_ HO_503002))) (Kd.R_lt (by exact rZ_ HO_521001))) (Kd.R_lt (by exact rZ_ HO_521002))) (Kd.R_lt (by exact rZ_ HO_533001))) (Kd.R_lt (by exact rZ_ HO_533002))) (bS_ (by exact bZ_ HB)));have n11_:=aM_ (Kd.R_lower (Kd.R_new' (Kd.R_new' (Kd.R_new' (Kd.R_new' (Kd.R_new' (Kd.R_new' ho1 (Kd.R_lt (by exact rZ_ HO_503001))) (Kd.R_lt (by exact rZ_ HO_503002))) (Kd.R_lt (by exact rZ_ HO_521001))) (Kd.R_lt (by exact rZ_ HO_521002))) (Kd.R_lt (by exact rZ_ HO_533001))) (Kd.R_lt (by exact rZ_ HO_533002))) (bS_ (by exact bZ_ HB)));have n12_:=aM_ (Kd.R_lower (Kd.R_new' (Kd.R_new' (Kd.R_new' ho2 (Kd.R_lt (by exact rZ_ HO_503003))) (Kd.R_lt (by exact rZ_ HO_521003))) (Kd.R_lt (by exact rZ_ HO_533003))) (bS_ (by exact bZ_ HB)));have n13_:=aM_ (blk_below (g:=gb502) (o:=.cells #[.bool t492,.slice Ao13 t493.length co13,.slice Ao14 t496.length co14,.slice Ao15 t499.length co15] 29 (0,0)) (by exact kZ_ BK502) hb);have n14_:=aM_ (blk_below (g:=gb520) (o:=.cells #[.bool t509,.slice Ao23 t510.length co23,.slice Ao24 t513.length co24,.slice Ao25 t516.length co25] 29 (0,0)) (by exact kZ_ BK520) hb);have n15_:=aM_ (blk_below (g:=gb532) (o:=.cells #[.bool t521,.slice Ao31 t522.length co31,.slice Ao32 t525.length co32,.slice Ao33 t528.length co33] 29 (0,0)) (by exact kZ_ BK532) hb);have n16_:=aM_ (bT_ (by exact bZ_ HB) hb);clear HO_4 HO_503001 HO_503002 HO_503003 HO_521001 HO_521002 HO_521003 HO_533001 HO_533002 HO_533003 BK502 BK520 BK532 HB;have HO_4:=n0_;have HO_503001:=n1_;have HO_503002:=n2_;have HO_503003:=n3_;have HO_521001:=n4_;have HO_521002:=n5_;have HO_521003:=n6_;have HO_533001:=n7_;have HO_533002:=n8_;have HO_533003:=n9_;have HO547:=n10_;have HO550:=n11_;have HO553:=n12_;have BK502:=n13_;have BK520:=n14_;have BK532:=n15_;have HB:=n16_;clear n0_ n1_ n2_ n3_ n4_ n5_ n6_ n7_ n8_ n9_ n10_ n11_ n12_ n13_ n14_ n15_ n16_ hb ho0 ho1 ho2) | ((with_reducible refine gate_dst (N:=10) rfl ?_);(try (refine gate_guard (by rfl) ?_;dsimp only));refine box_event ?hg (N:=10) ?hd (cs:=#[.bool false,.slice none 0 0,.slice none 0 0,.slice none 0 0]) (t:=29) ?hr ?_;(case hd=>rfl);(case hg=>rfl);(case hr=>first | (go_simp;done) | (go_simp;rfl));intro gb555 hg w83 hbox hb;have n0_:=aM_ (Kd.R_below (by exact rZ_ HO_4) hb);have n1_:=aM_ (Kd.R_below (by exact rZ_ HO_503001) hb);have n2_:=aM_ (Kd.R_below (by exact rZ_ HO_503002) hb);have n3_:=aM_ (Kd.R_below (by exact rZ_ HO_503003) hb);have n4_:=aM_ (Kd.R_below (by exact rZ_ HO_521001) hb);have n5_:=aM_ (Kd.R_below (by exact rZ_ HO_521002) hb);have n6_:=aM_ (Kd.R_below (by exact rZ_ HO_521003) hb);have n7_:=aM_ (Kd.R_below (by exact rZ_ HO_533001) hb);have n8_:=aM_ (Kd.R_below (by exact rZ_ HO_533002) hb);have n9_:=aM_ (Kd.R_below (by exact rZ_ HO_533003) hb);have n10_:=aM_ (Kd.R_below (by exact rZ_ HO547) hb);have n11_:=aM_ (Kd.R_below (by exact rZ_ HO550) hb);have n12_:=aM_ (Kd.R_below (by exact rZ_ HO553) hb);have n13_:=aM_ (blk_below (g:=gb502) (o:=.cells #[.bool t492,.slice Ao13 t493.length co13,.slice Ao14 t496.length co14,.slice Ao15 t499.length co15] 29 (0,0)) (by exact kZ_ BK502) hb);have n14_:=aM_ (blk_below (g:=gb520) (o:=.cells #[.bool t509,.slice Ao23 t510.length co23,.slice Ao24 t513.length co24,.slice Ao25 t516.length co25] 29 (0,0)) (by exact kZ_ BK520) hb);have n15_:=aM_ (blk_below (g:=gb532) (o:=.cells #[.bool t521,.slice Ao31 t522.length co31,.slice Ao32 t525.length co32,.slice Ao33 t528.length co33] 29 (0,0)) (by exact kZ_ BK532) hb);have n16_:=aM_ (bT_ (by exact bZ_ HB) hb);have n17_:=aM_ (hbox);have n18_:=aM_ ((by rw [hg];exact (bS_ (by exact bZ_ HB)) : w.heap.size ≤ gb555));have n19_:=aM_ ((by rw [hg];exact (bS_ (by exact bZ_ HB)) : w.heap.size ≤ gb555));have n20_:=aM_ ((by rw [hg];exact Nat.ne_of_lt (blk_lt (g:=gb502) (o:=.cells #[.bool t492,.slice Ao13 t493.length co13,.slice Ao14 t496.length co14,.slice Ao15 t499.length co15] 29 (0,0)) (by exact kZ_ BK502)) : gb502 ≠ gb555));have n21_:=aM_ ((by rw [hg];exact Nat.ne_of_gt (blk_lt (g:=gb502) (o:=.cells #[.bool t492,.slice Ao13 t493.length co13,.slice Ao14 t496.length co14,.slice Ao15 t499.length co15] 29 (0,0)) (by exact kZ_ BK502)) : gb555 ≠ gb502));have n22_:=aM_ ((by rw [hg];exact Nat.ne_of_lt (blk_lt (g:=gb520) (o:=.cells #[.bool t509,.slice Ao23 t510.length co23,.slice Ao24 t513.length co24,.slice Ao25 t516.length co25] 29 (0,0)) (by exact kZ_ BK520)) : gb520 ≠ gb555));have n23_:=aM_ ((by rw [hg];exact Nat.ne_of_gt (blk_lt (g:=gb520) (o:=.cells #[.bool t509,.slice Ao23 t510.length co23,.slice Ao24 t513.length co24,.slice Ao25 t516.length co25] 29 (0,0)) (by exact kZ_ BK520)) : gb555 ≠ gb520));have n24_:=aM_ ((by rw [hg];exact Nat.ne_of_lt (blk_lt (g:=gb532) (o:=.cells #[.bool t521,.slice Ao31 t522.length co31,.slice Ao32 t525.length co32,.slice Ao33 t528.length co33] 29 (0,0)) (by exact kZ_ BK532)) : gb532 ≠ gb555));have n25_:=aM_ ((by rw [hg];exact Nat.ne_of_gt (blk_lt (g:=gb532) (o:=.cells #[.bool t521,.slice Ao31 t522.length co31,.slice Ao32 t525.length co32,.slice Ao33 t528.length co33] 29 (0,0)) (by exact kZ_ BK532)) : gb555 ≠ gb532));clear HO_4 HO_503001 HO_503002 HO_503003 HO_521001 HO_521002 HO_521003 HO_533001 HO_533002 HO_533003 HO547 HO550 HO553 BK502 BK520 BK532 HB;have HO_4:=n0_;have HO_503001:=n1_;have HO_503002:=n2_;have HO_503003:=n3_;have HO_521001:=n4_;have HO_521002:=n5_;have HO_521003:=n6_;have HO_533001:=n7_;have HO_533002:=n8_;have HO_533003:=n9_;have HO547:=n10_;have HO550:=n11_;have HO553:=n12_;have BK502:=n13_;have BK520:=n14_;have BK532:=n15_;have HB:=n16_;have BK555:=n17_;have GW555:=n18_;have GE555:=n19_;have NB502_555:=n20_;have NB555_502:=n21_;have NB520_555:=n22_;have NB555_520:=n23_;have NB532_555:=n24_;have NB555_532:=n25_;clear n0_ n1_ n2_ n3_ n4_ n5_ n6_ n7_ n8_ n9_ n10_ n11_ n12_ n13_ n14_ n15_ n16_ n17_ n18_ n19_ n20_ n21_ n22_ n23_ n24_ n25_ hb hbox hg;have hnb84:=NB555_502.out;have hnc84:=NB502_555.out;have hnb85:=NB555_520.out;have hnc85:=NB520_555.out;have hnb86:=NB555_532.out;have hnc86:=NB532_555.out;have hcz87_0 : w83.cell? ⟨gb555,0,none⟩ = some (.bool false):=(kC_ BK555.out 0).trans rfl;have hcz87_1 : w83.cell? ⟨gb555,1,none⟩ = some (.slice none 0 0):=(kC_ BK555.out 1).trans rfl;have hcz87_2 : w83.cell? ⟨gb555,2,none⟩ = some (.slice none 0 0):=(kC_ BK555.out 2).trans rfl;have hcz87_3 : w83.cell? ⟨gb555,3,none⟩ = some (.slice none 0 0):=(kC_ BK555.out 3).trans rfl;have hfz87_0:=kF_ BK555.out 0;have hfz87_1:=kF_ BK555.out 1;have hfz87_2:=kF_ BK555.out 2;have hfz87_3:=kF_ BK555.out 3;obtain ⟨Ao88,co88,eo88⟩:=Kd.R_slice HO547.out;subst eo88;obtain ⟨Ao89,co89,eo89⟩:=Kd.R_slice HO550.out;subst eo89;obtain ⟨Ao90,co90,eo90⟩:=Kd.R_slice HO553.out;subst eo90;have hcz91_0 : w83.cell? ⟨gb502,0,none⟩ = some (.bool t492):=(kC_ BK502.out 0).trans rfl;have hcz91_1 : w83.cell? ⟨gb502,1,none⟩ = some (.slice Ao13 t493.length co13):=(kC_ BK502.out 1).trans rfl;have hcz91_2 : w83.cell? ⟨gb502,2,none⟩ = some (.slice Ao14 t496.length co14):=(kC_ BK502.out 2).trans rfl;have hcz91_3 : w83.cell? ⟨gb502,3,none⟩ = some (.slice Ao15 t499.length co15):=(kC_ BK502.out 3).trans rfl;have hfz91_0:=kF_ BK502.out 0;have hfz91_1:=kF_ BK502.out 1;have hfz91_2:=kF_ BK502.out 2;have hfz91_3:=kF_ BK502.out 3) | (go_at_call 33;(with_reducible refine (impl_SameNode.calls kj8 t544 _ _ t545 _ _ t548 _ _ t551 t492 _ _ t493 _ _ t496 _ _ t499 true _ ?side1 ?side2 ?side3 ?side4 ?side5 ?side6 ?side7 ?side8 ?side9 ?side10 ?side11 ?side12 A71.out).mono ?_);(case side1=>refine (Kd.R_reads' (e:=9) (base:=w.heap.size) (ok:=fun k_=>((((((some k_ ≠ (.slice Ao89 t548.length co89 : Value).ownBlock ∧ some k_ ≠ (.slice Ao13 t493.length co13 : Value).ownBlock) ∧ some k_ ≠ (.slice Ao14 t496.length co14 : Value).ownBlock) ∧ some k_ ≠ (.slice Ao23 t510.length co23 : Value).ownBlock) ∧ some k_ ≠ (.slice Ao24 t513.length co24 : Value).ownBlock) ∧ some k_ ≠ (.slice Ao31 t522.length co31 : Value).ownBlock) ∧ some k_ ≠ (.slice Ao32 t525.length co32 : Value).ownBlock)) (n:=t545.length) (c:=co88) ?_).2.2;exact (by (with_reducible repeat (first | apply rA_ | apply rN_ | apply rD_));exact (Kd.R_mono (Kd.R_far (p:=⟨gb555,3,none⟩) (Kd.R_far (p:=⟨gb555,2,none⟩) (Kd.R_far (p:=⟨gb555,1,none⟩) (Kd.R_far (p:=⟨gb555,0,none⟩) (Kd.R_types HO547.out BK555.out (by decide)) (fun _ hk=>hk.2) (.bool t544)) (fun _ hk=>hk.2) (.slice Ao88 t545.length co88)) (fun _ hk=>hk.2) (.slice Ao89 t548.length co89)) (fun _ hk=>hk.2) (.slice Ao90 t551.length co90)) (fun _ h_=>h_.1))));(case side2=>exact (Kd.R_reads' HO547.out).2.1);(case side3=>refine (Kd.R_reads' (e:=9) (base:=w.heap.size) (ok:=fun k_=>((((((some k_ ≠ (.slice Ao88 t545.length co88 : Value).ownBlock ∧ some k_ ≠ (.slice Ao13 t493.length co13 : Value).ownBlock) ∧ some k_ ≠ (.slice Ao14 t496.length co14 : Value).ownBlock) ∧ some k_ ≠ (.slice Ao23 t510.length co23 : Value).ownBlock) ∧ some k_ ≠ (.slice Ao24 t513.length co24 : Value).ownBlock) ∧ some k_ ≠ (.slice Ao31 t522.length co31 : Value).ownBlock) ∧ some k_ ≠ (.slice Ao32 t525.length co32 : Value).ownBlock)) (n:=t548.length) (c:=co89) ?_).2.2;exact (by (with_reducible repeat (first | apply rA_ | apply rN_ | apply rD_));exact (Kd.R_mono (Kd.R_far (p:=⟨gb555,3,none⟩) (Kd.R_far (p:=⟨gb555,2,none⟩) (Kd.R_far (p:=⟨gb555,1,none⟩) (Kd.R_far (p:=⟨gb555,0,none⟩) (Kd.R_types HO550.out BK555.out (by decide)) (fun _ hk=>hk.2) (.bool t544)) (fun _ hk=>hk.2) (.slice Ao88 t545.length co88)) (fun _ hk=>hk.2) (.slice Ao89 t548.length co89)) (fun _ hk=>hk.2) (.slice Ao90 t551.length co90)) (fun _ h_=>h_.1))));(case side4=>exact (Kd.R_reads' HO550.out).2.1);(case side5=>refine (Kd.R_reads' (e:=3) (base:=w.heap.size) (ok:=fun k_=>(((True ∧ some k_ ≠ (.slice Ao15 t499.length co15 : Value).ownBlock) ∧ some k_ ≠ (.slice Ao25 t516.length co25 : Value).ownBlock) ∧ some k_ ≠ (.slice Ao33 t528.length co33 : Value).ownBlock)) (n:=t551.length) (c:=co90) ?_).2.2;exact (by (with_reducible repeat (first | apply rA_ | apply rN_ | apply rD_));exact (Kd.R_mono (Kd.R_far (p:=⟨gb555,3,none⟩) (Kd.R_far (p:=⟨gb555,2,none⟩) (Kd.R_far (p:=⟨gb555,1,none⟩) (Kd.R_far (p:=⟨gb555,0,none⟩) (Kd.R_types HO553.out BK555.out (by decide)) (fun _ hk=>hk.2) (.bool t544)) (fun _ hk=>hk.2) (.slice Ao88 t545.length co88)) (fun _ hk=>hk.2) (.slice Ao89 t548.length co89)) (fun _ hk=>hk.2) (.slice Ao90 t551.length co90)) (fun _ h_=>h_.1))));(case side6=>exact (Kd.R_reads' HO553.out).2.1);(case side7=>refine (Kd.R_reads' (e:=9) (base:=w.heap.size) (ok:=fun k_=>(((some k_ ≠ (.slice Ao14 t496.length co14 : Value).ownBlock ∧ (some k_ ≠ (.slice Ao23 t510.length co23 : Value).ownBlock ∧ (some k_ ≠ (.slice Ao24 t513.length co24 : Value).ownBlock ∧ (some k_ ≠ (.slice Ao31 t522.length co31 : Value).ownBlock ∧ some k_ ≠ (.slice Ao32 t525.length co32 : Value).ownBlock)))) ∧ some k_ ≠ (.slice Ao88 t545.length co88 : Value).ownBlock) ∧ some k_ ≠ (.slice Ao89 t548.length co89 : Value).ownBlock)) (n:=t493.length) (c:=co13) ?_).2.2;exact (by (with_reducible repeat (first | apply rA_ | apply rN_ | apply rD_));exact (Kd.R_mono (Kd.R_far (p:=⟨gb555,3,none⟩) (Kd.R_far (p:=⟨gb555,2,none⟩) (Kd.R_far (p:=⟨gb555,1,none⟩) (Kd.R_far (p:=⟨gb555,0,none⟩) (Kd.R_types HO_503001.out BK555.out (by decide)) (fun _ hk=>hk.2) (.bool t544)) (fun _ hk=>hk.2) (.slice Ao88 t545.length co88)) (fun _ hk=>hk.2) (.slice Ao89 t548.length co89)) (fun _ hk=>hk.2) (.slice Ao90 t551.length co90)) (fun _ h_=>h_.1))));(case side8=>exact (Kd.R_reads' HO_503001.out).2.1);(case side9=>refine (Kd.R_reads' (e:=9) (base:=w.heap.size) (ok:=fun k_=>(((some k_ ≠ (.slice Ao13 t493.length co13 : Value).ownBlock ∧ (some k_ ≠ (.slice Ao23 t510.length co23 : Value).ownBlock ∧ (some k_ ≠ (.slice Ao24 t513.length co24 : Value).ownBlock ∧ (some k_ ≠ (.slice Ao31 t522.length co31 : Value).ownBlock ∧ some k_ ≠ (.slice Ao32 t525.length co32 : Value).ownBlock)))) ∧ some k_ ≠ (.slice Ao88 t545.length co88 : Value).ownBlock) ∧ some k_ ≠ (.slice Ao89 t548.length co89 : Value).ownBlock)) (n:=t496.length) (c:=co14) ?_).2.2;exact (by (with_reducible repeat (first | apply rA_ | apply rN_ | apply rD_));exact (Kd.R_mono (Kd.R_far (p:=⟨gb555,3,none⟩) (Kd.R_far (p:=⟨gb555,2,none⟩) (Kd.R_far (p:=⟨gb555,1,none⟩) (Kd.R_far (p:=⟨gb555,0,none⟩) (Kd.R_types HO_503002.out BK555.out (by decide)) (fun _ hk=>hk.2) (.bool t544)) (fun _ hk=>hk.2) (.slice Ao88 t545.length co88)) (fun _ hk=>hk.2) (.slice Ao89 t548.length co89)) (fun _ hk=>hk.2) (.slice Ao90 t551.length co90)) (fun _ h_=>h_.1))));(case side10=>exact (Kd.R_reads' HO_503002.out).2.1);(case side11=>refine (Kd.R_reads' (e:=3) (base:=w.heap.size) (ok:=fun k_=>((some k_ ≠ (.slice Ao25 t516.length co25 : Value).ownBlock ∧ some k_ ≠ (.slice Ao33 t528.length co33 : Value).ownBlock) ∧ some k_ ≠ (.slice Ao90 t551.length co90 : Value).ownBlock)) (n:=t499.length) (c:=co15) ?_).2.2;exact (by (with_reducible repeat (first | apply rA_ | apply rN_ | apply rD_));exact (Kd.R_mono (Kd.R_far (p:=⟨gb555,3,none⟩) (Kd.R_far (p:=⟨gb555,2,none⟩) (Kd.R_far (p:=⟨gb555,1,none⟩) (Kd.R_far (p:=⟨gb555,0,none⟩) (Kd.R_types HO_503003.out BK555.out (by decide)) (fun _ hk=>hk.2) (.bool t544)) (fun _ hk=>hk.2) (.slice Ao88 t545.length co88)) (fun _ hk=>hk.2) (.slice Ao89 t548.length co89)) (fun _ hk=>hk.2) (.slice Ao90 t551.length co90)) (fun _ h_=>h_.1))));(case side12=>exact (Kd.R_reads' HO_503003.out).2.1);rintro e w92 ⟨rfl,hb⟩;have n0_:=aM_ (Kd.R_below (by (with_reducible repeat (first | apply rA_ | apply rN_ | apply rD_));exact (Kd.R_mono (Kd.R_far (p:=⟨gb555,3,none⟩) (Kd.R_far (p:=⟨gb555,2,none⟩) (Kd.R_far (p:=⟨gb555,1,none⟩) (Kd.R_far (p:=⟨gb555,0,none⟩) (Kd.R_types HO_4.out BK555.out (by decide)) (fun _ hk=>hk.2) (.bool t544)) (fun _ hk=>hk.2) (.slice Ao88 t545.length co88)) (fun _ hk=>hk.2) (.slice Ao89 t548.length co89)) (fun _ hk=>hk.2) (.slice Ao90 t551.length co90)) (fun _ h_=>h_.1))) hb);have n1_:=aM_ (Kd.R_below (by (with_reducible repeat (first | apply rA_ | apply rN_ | apply rD_));exact (Kd.R_mono (Kd.R_far (p:=⟨gb555,3,none⟩) (Kd.R_far (p:=⟨gb555,2,none⟩) (Kd.R_far (p:=⟨gb555,1,none⟩) (Kd.R_far (p:=⟨gb555,0,none⟩) (Kd.R_types HO_503001.out BK555.out (by decide)) (fun _ hk=>hk.2) (.bool t544)) (fun _ hk=>hk.2) (.slice Ao88 t545.length co88)) (fun _ hk=>hk.2) (.slice Ao89 t548.length co89)) (fun _ hk=>hk.2) (.slice Ao90 t551.length co90)) (fun _ h_=>h_.1))) hb);have n2_:=aM_ (Kd.R_below (by (with_reducible repeat (first | apply rA_ | apply rN_ | apply rD_));exact (Kd.R_mono (Kd.R_far (p:=⟨gb555,3,none⟩) (Kd.R_far (p:=⟨gb555,2,none⟩) (Kd.R_far (p:=⟨gb555,1,none⟩) (Kd.R_far (p:=⟨gb555,0,none⟩) (Kd.R_types HO_503002.out BK555.out (by decide)) (fun _ hk=>hk.2) (.bool t544)) (fun _ hk=>hk.2) (.slice Ao88 t545.length co88)) (fun _ hk=>hk.2) (.slice Ao89 t548.length co89)) (fun _ hk=>hk.2) (.slice Ao90 t551.length co90)) (fun _ h_=>h_.1))) hb);have n3_:=aM_ (Kd.R_below (by (with_reducible repeat (first | apply rA_ | apply rN_ | apply rD_));exact (Kd.R_mono (Kd.R_far (p:=⟨gb555,3,none⟩) (Kd.R_far (p:=⟨gb555,2,none⟩) (Kd.R_far (p:=⟨gb555,1,none⟩) (Kd.R_far (p:=⟨gb555,0,none⟩) (Kd.R_types HO_503003.out BK555.out (by decide)) (fun _ hk=>hk.2) (.bool t544)) (fun _ hk=>hk.2) (.slice Ao88 t545.length co88)) (fun _ hk=>hk.2) (.slice Ao89 t548.length co89)) (fun _ hk=>hk.2) (.slice Ao90 t551.length co90)) (fun _ h_=>h_.1))) hb);have n4_:=aM_ (Kd.R_below (by (with_reducible repeat (first | apply rA_ | apply rN_ | apply rD_));exact (Kd.R_mono (Kd.R_far (p:=⟨gb555,3,none⟩) (Kd.R_far (p:=⟨gb555,2,none⟩) (Kd.R_far (p:=⟨gb555,1,none⟩) (Kd.R_far (p:=⟨gb555,0,none⟩) (Kd.R_types HO_521001.out BK555.out (by decide)) (fun _ hk=>hk.2) (.bool t544)) (fun _ hk=>hk.2) (.slice Ao88 t545.length co88)) (fun _ hk=>hk.2) (.slice Ao89 t548.length co89)) (fun _ hk=>hk.2) (.slice Ao90 t551.length co90)) (fun _ h_=>h_.1))) hb);have n5_:=aM_ (Kd.R_below (by (with_reducible repeat (first | apply rA_ | apply rN_ | apply rD_));exact (Kd.R_mono (Kd.R_far (p:=⟨gb555,3,none⟩) (Kd.R_far (p:=⟨gb555,2,none⟩) (Kd.R_far (p:=⟨gb555,1,none⟩) (Kd.R_far (p:=⟨gb555,0,none⟩) (Kd.R_types HO_521002.out BK555.out (by decide)) (fun _ hk=>hk.2) (.bool t544)) (fun _ hk=>hk.2) (.slice Ao88 t545.length co88)) (fun _ hk=>hk.2) (.slice Ao89 t548.length co89)) (fun _ hk=>hk.2) (.slice Ao90 t551.length co90)) (fun _ h_=>h_.1))) hb);have n6_:=aM_ (Kd.R_below (by (with_reducible repeat (first | apply rA_ | apply rN_ | apply rD_));exact (Kd.R_mono (Kd.R_far (p:=⟨gb555,3,none⟩) (Kd.R_far (p:=⟨gb555,2,none⟩) (Kd.R_far (p:=⟨gb555,1,none⟩) (Kd.R_far (p:=⟨gb555,0,none⟩) (Kd.R_types HO_521003.out BK555.out (by decide)) (fun _ hk=>hk.2) (.bool t544)) (fun _ hk=>hk.2) (.slice Ao88 t545.length co88)) (fun _ hk=>hk.2) (.slice Ao89 t548.length co89)) (fun _ hk=>hk.2) (.slice Ao90 t551.length co90)) (fun _ h_=>h_.1))) hb);have n7_:=aM_ (Kd.R_below (by (with_reducible repeat (first | apply rA_ | apply rN_ | apply rD_));exact (Kd.R_mono (Kd.R_far (p:=⟨gb555,3,none⟩) (Kd.R_far (p:=⟨gb555,2,none⟩) (Kd.R_far (p:=⟨gb555,1,none⟩) (Kd.R_far (p:=⟨gb555,0,none⟩) (Kd.R_types HO_533001.out BK555.out (by decide)) (fun _ hk=>hk.2) (.bool t544)) (fun _ hk=>hk.2) (.slice Ao88 t545.length co88)) (fun _ hk=>hk.2) (.slice Ao89 t548.length co89)) (fun _ hk=>hk.2) (.slice Ao90 t551.length co90)) (fun _ h_=>h_.1))) hb);have n8_:=aM_ (Kd.R_below (by (with_reducible repeat (first | apply rA_ | apply rN_ | apply rD_));exact (Kd.R_mono (Kd.R_far (p:=⟨gb555,3,none⟩) (Kd.R_far (p:=⟨gb555,2,none⟩) (Kd.R_far (p:=⟨gb555,1,none⟩) (Kd.R_far (p:=⟨gb555,0,none⟩) (Kd.R_types HO_533002.out BK555.out (by decide)) (fun _ hk=>hk.2) (.bool t544)) (fun _ hk=>hk.2) (.slice Ao88 t545.length co88)) (fun _ hk=>hk.2) (.slice Ao89 t548.length co89)) (fun _ hk=>hk.2) (.slice Ao90 t551.length co90)) (fun _ h_=>h_.1))) hb);have n9_:=aM_ (Kd.R_below (by (with_reducible repeat (first | apply rA_ | apply rN_ | apply rD_));exact (Kd.R_mono (Kd.R_far (p:=⟨gb555,3,none⟩) (Kd.R_far (p:=⟨gb555,2,none⟩) (Kd.R_far (p:=⟨gb555,1,none⟩) (Kd.R_far (p:=⟨gb555,0,none⟩) (Kd.R_types HO_533003.out BK555.out (by decide)) (fun _ hk=>hk.2) (.bool t544)) (fun _ hk=>hk.2) (.slice Ao88 t545.length co88)) (fun _ hk=>hk.2) (.slice Ao89 t548.length co89)) (fun _ hk=>hk.2) (.slice Ao90 t551.length co90)) (fun _ h_=>h_.1))) hb);have n10_:=aM_ (Kd.R_below (by (with_reducible repeat (first | apply rA_ | apply rN_ | apply rD_));exact (Kd.R_mono (Kd.R_far (p:=⟨gb555,3,none⟩) (Kd.R_far (p:=⟨gb555,2,none⟩) (Kd.R_far (p:=⟨gb555,1,none⟩) (Kd.R_far (p:=⟨gb555,0,none⟩) (Kd.R_types HO547.out BK555.out (by decide)) (fun _ hk=>hk.2) (.bool t544)) (fun _ hk=>hk.2) (.slice Ao88 t545.length co88)) (fun _ hk=>hk.2) (.slice Ao89 t548.length co89)) (fun _ hk=>hk.2) (.slice Ao90 t551.length co90)) (fun _ h_=>h_.1))) hb);have n11_:=aM_ (Kd.R_below (by (with_reducible repeat (first | apply rA_ | apply rN_ | apply rD_));exact (Kd.R_mono (Kd.R_far (p:=⟨gb555,3,none⟩) (Kd.R_far (p:=⟨gb555,2,none⟩) (Kd.R_far (p:=⟨gb555,1,none⟩) (Kd.R_far (p:=⟨gb555,0,none⟩) (Kd.R_types HO550.out BK555.out (by decide)) (fun _ hk=>hk.2) (.bool t544)) (fun _ hk=>hk.2) (.slice Ao88 t545.length co88)) (fun _ hk=>hk.2) (.slice Ao89 t548.length co89)) (fun _ hk=>hk.2) (.slice Ao90 t551.length co90)) (fun _ h_=>h_.1))) hb);have n12_:=aM_ (Kd.R_below (by (with_reducible repeat (first | apply rA_ | apply rN_ | apply rD_));exact (Kd.R_mono (Kd.R_far (p:=⟨gb555,3,none⟩) (Kd.R_far (p:=⟨gb555,2,none⟩) (Kd.R_far (p:=⟨gb555,1,none⟩) (Kd.R_far (p:=⟨gb555,0,none⟩) (Kd.R_types HO553.out BK555.out (by decide)) (fun _ hk=>hk.2) (.bool t544)) (fun _ hk=>hk.2) (.slice Ao88 t545.length co88)) (fun _ hk=>hk.2) (.slice Ao89 t548.length co89)) (fun _ hk=>hk.2) (.slice Ao90 t551.length co90)) (fun _ h_=>h_.1))) hb);have n13_:=aM_ (blk_below (g:=gb502) (o:=.cells #[.bool t492,.slice Ao13 t493.length co13,.slice Ao14 t496.length co14,.slice Ao15 t499.length co15] 29 (0,0)) (by exact kW_ BK502) hb);have n14_:=aM_ (blk_below (g:=gb520) (o:=.cells #[.bool t509,.slice Ao23 t510.length co23,.slice Ao24 t513.length co24,.slice Ao25 t516.length co25] 29 (0,0)) (by exact kW_ BK520) hb);have n15_:=aM_ (blk_below (g:=gb532) (o:=.cells #[.bool t521,.slice Ao31 t522.length co31,.slice Ao32 t525.length co32,.slice Ao33 t528.length co33] 29 (0,0)) (by exact kW_ BK532) hb);have n16_:=aM_ (blk_below (g:=gb555) (o:=.cells #[.bool t544,.slice Ao88 t545.length co88,.slice Ao89 t548.length co89,.slice Ao90 t551.length co90] 29 (0,0)) (by (with_reducible repeat (first | refine kN_ ?_ _ | refine kD_ ?_ | refine kA_ ?_ _));refine kP_ (cs:=#[.bool t544,.slice Ao88 t545.length co88,.slice Ao89 t548.length co89,.slice none 0 0]) ?_ 3 _ rfl;(with_reducible repeat (first | refine kN_ ?_ _ | refine kD_ ?_ | refine kA_ ?_ _));refine kP_ (cs:=#[.bool t544,.slice Ao88 t545.length co88,.slice none 0 0,.slice none 0 0]) ?_ 2 _ rfl;(with_reducible repeat (first | refine kN_ ?_ _ | refine kD_ ?_ | refine kA_ ?_ _));refine kP_ (cs:=#[.bool t544,.slice none 0 0,.slice none 0 0,.slice none 0 0]) ?_ 1 _ rfl;(with_reducible repeat (first | refine kN_ ?_ _ | refine kD_ ?_ | refine kA_ ?_ _));refine kP_ (cs:=#[.bool false,.slice none 0 0,.slice none 0 0,.slice none 0 0]) ?_ 0 _ rfl;exact kZ_ BK555) hb);have n17_:=aM_ (bT_ (by exact bZ_ HB) hb);clear HO_4 HO_503001 HO_503002 HO_503003 HO_521001 HO_521002 HO_521003 HO_533001 HO_533002 HO_533003 HO547 HO550 HO553 BK502 BK520 BK532 BK555 HB;have HO_4:=n0_;have HO_503001:=n1_;have HO_503002:=n2_;have HO_503003:=n3_;have HO_521001:=n4_;have HO_521002:=n5_;have HO_521003:=n6_;have HO_533001:=n7_;have HO_533002:=n8_;have HO_533003:=n9_;have HO547:=n10_;have HO550:=n11_;have HO553:=n12_;have BK502:=n13_;have BK520:=n14_;have BK532:=n15_;have BK555:=n16_;have HB:=n17_;clear n0_ n1_ n2_ n3_ n4_ n5_ n6_ n7_ n8_ n9_ n10_ n11_ n12_ n13_ n14_ n15_ n16_ n17_ hb;have hcz93_0 : w92.cell? ⟨gb502,0,none⟩ = some (.bool t492):=(kC_ BK502.out 0).trans rfl;have hcz93_1 : w92.cell? ⟨gb502,1,none⟩ = some (.slice Ao13 t493.length co13):=(kC_ BK502.out 1).trans rfl;have hcz93_2 : w92.cell? ⟨gb502,2,none⟩ = some (.slice Ao14 t496.length co14):=(kC_ BK502.out 2).trans rfl;have hcz93_3 : w92.cell? ⟨gb502,3,none⟩ = some (.slice Ao15 t499.length co15):=(kC_ BK502.out 3).trans rfl;have hfz93_0:=kF_ BK502.out 0;have hfz93_1:=kF_ BK502.out 1;have hfz93_2:=kF_ BK502.out 2;have hfz93_3:=kF_ BK502.out 3) | (go_at_call 28;(with_reducible refine (impl_NodeOk.calls kj8 t492 _ _ t493 _ _ t496 _ _ t499 true _ ?side1 ?side2 ?side3 ?side4 ?side5 ?side6 A73.out).mono ?_);(case side1=>repeat (first | exact (Kd.R_reads' HO_503001.out).2.2 | (with_reducible refine cA_ ?_ _) | (with_reducible refine cN_ ?_ _) | (with_reducible refine cD_ ?_)));(case side2=>exact (Kd.R_reads' HO_503001.out).2.1);(case side3=>repeat (first | exact (Kd.R_reads' HO_503002.out).2.2 | (with_reducible refine cA_ ?_ _) | (with_reducible refine cN_ ?_ _) | (with_reducible refine cD_ ?_)));(case side4=>exact (Kd.R_reads' HO_503002.out).2.1);(case side5=>repeat (first | exact (Kd.R_reads' HO_503003.out).2.2 | (with_reducible refine cA_ ?_ _) | (with_reducible refine cN_ ?_ _) | (with_reducible refine cD_ ?_)));(case side6=>exact (Kd.R_reads' HO_503003.out).2.1);rintro e w94 ⟨rfl,hb⟩;have n0_:=aM_ (Kd.R_below (by exact rZ_ HO_4) hb);have n1_:=aM_ (Kd.R_below (by exact rZ_ HO_503001) hb);have n2_:=aM_ (Kd.R_below (by exact rZ_ HO_503002) hb);have n3_:=aM_ (Kd.R_below (by exact rZ_ HO_503003) hb);have n4_:=aM_ (Kd.R_below (by exact rZ_ HO_521001) hb);have n5_:=aM_ (Kd.R_below (by exact rZ_ HO_521002) hb);have n6_:=aM_ (Kd.R_below (by exact rZ_ HO_521003) hb);have n7_:=aM_ (Kd.R_below (by exact rZ_ HO_533001) hb);have n8_:=aM_ (Kd.R_below (by exact rZ_ HO_533002) hb);have n9_:=aM_ (Kd.R_below (by exact rZ_ HO_533003) hb);have n10_:=aM_ (Kd.R_below (by exact rZ_ HO547) hb);have n11_:=aM_ (Kd.R_below (by exact rZ_ HO550) hb);have n12_:=aM_ (Kd.R_below (by exact rZ_ HO553) hb);have n13_:=aM_ (blk_below (g:=gb502) (o:=.cells #[.bool t492,.slice Ao13 t493.length co13,.slice Ao14 t496.length co14,.slice Ao15 t499.length co15] 29 (0,0)) (by exact kZ_ BK502) hb);have n14_:=aM_ (blk_below (g:=gb520) (o:=.cells #[.bool t509,.slice Ao23 t510.length co23,.slice Ao24 t513.length co24,.slice Ao25 t516.length co25] 29 (0,0)) (by exact kZ_ BK520) hb);have n15_:=aM_ (blk_below (g:=gb532) (o:=.cells #[.bool t521,.slice Ao31 t522.length co31,.slice Ao32 t525.length co32,.slice Ao33 t528.length co33] 29 (0,0)) (by exact kZ_ BK532) hb);have n16_:=aM_ (blk_below (g:=gb555) (o:=.cells #[.bool t544,.slice Ao88 t545.length co88,.slice Ao89 t548.length co89,.slice Ao90 t551.length co90] 29 (0,0)) (by exact kZ_ BK555) hb);have n17_:=aM_ (bT_ (by exact bZ_ HB) hb);clear HO_4 HO_503001 HO_503002 HO_503003 HO_521001 HO_521002 HO_521003 HO_533001 HO_533002 HO_533003 HO547 HO550 HO553 BK502 BK520 BK532 BK555 HB;have HO_4:=n0_;have HO_503001:=n1_;have HO_503002:=n2_;have HO_503003:=n3_;have HO_521001:=n4_;have HO_521002:=n5_;have HO_521003:=n6_;have HO_533001:=n7_;have HO_533002:=n8_;have HO_533003:=n9_;have HO547:=n10_;have HO550:=n11_;have HO553:=n12_;have BK502:=n13_;have BK520:=n14_;have BK532:=n15_;have BK555:=n16_;have HB:=n17_;clear n0_ n1_ n2_ n3_ n4_ n5_ n6_ n7_ n8_ n9_ n10_ n11_ n12_ n13_ n14_ n15_ n16_ n17_ hb;have hcz95_0 : w94.cell? ⟨gb502,0,none⟩ = some (.bool t492):=(kC_ BK502.out 0).trans rfl;have hcz95_1 : w94.cell? ⟨gb502,1,none⟩ = some (.slice Ao13 t493.length co13):=(kC_ BK502.out 1).trans rfl;have hcz95_2 : w94.cell? ⟨gb502,2,none⟩ = some (.slice Ao14 t496.length co14):=(kC_ BK502.out 2).trans rfl;have hcz95_3 : w94.cell? ⟨gb502,3,none⟩ = some (.slice Ao15 t499.length co15):=(kC_ BK502.out 3).trans rfl;have hfz95_0:=kF_ BK502.out 0;have hfz95_1:=kF_ BK502.out 1;have hfz95_2:=kF_ BK502.out 2;have hfz95_3:=kF_ BK502.out 3) | (go_at_call 30;(with_reducible refine (impl_SizeOf.calls kj8 t492 _ _ t493 _ _ t496 _ _ t499 t558 _ ?side1 ?side2 ?side3 ?side4 ?side5 ?side6 A75.out).mono ?_);(case side1=>repeat (first | exact (Kd.R_reads' HO_503001.out).2.2 | (with_reducible refine cA_ ?_ _) | (with_reducible refine cN_ ?_ _) | (with_reducible refine cD_ ?_)));(case side2=>exact (Kd.R_reads' HO_503001.out).2.1);(case side3=>repeat (first | exact (Kd.R_reads' HO_503002.out).2.2 | (with_reducible refine cA_ ?_ _) | (with_reducible refine cN_ ?_ _) | (with_reducible refine cD_ ?_)));(case side4=>exact (Kd.R_reads' HO_503002.out).2.1);(case side5=>repeat (first | exact (Kd.R_reads' HO_503003.out).2.2 | (with_reducible refine cA_ ?_ _) | (with_reducible refine cN_ ?_ _) | (with_reducible refine cD_ ?_)));(case side6=>exact (Kd.R_reads' HO_503003.out).2.1);rintro e w96 ⟨rfl,hb⟩;have n0_:=aM_ (Kd.R_below (by exact rZ_ HO_4) hb);have n1_:=aM_ (Kd.R_below (by exact rZ_ HO_503001) hb);have n2_:=aM_ (Kd.R_below (by exact rZ_ HO_503002) hb);have n3_:=aM_ (Kd.R_below (by exact rZ_ HO_503003) hb);have n4_:=aM_ (Kd.R_below (by exact rZ_ HO_521001) hb);have n5_:=aM_ (Kd.R_below (by exact rZ_ HO_521002) hb);have n6_:=aM_ (Kd.R_below (by exact rZ_ HO_521003) hb);have n7_:=aM_ (Kd.R_below (by exact rZ_ HO_533001) hb);have n8_:=aM_ (Kd.R_below (by exact rZ_ HO_533002) hb);have n9_:=aM_ (Kd.R_below (by exact rZ_ HO_533003) hb);have n10_:=aM_ (Kd.R_below (by exact rZ_ HO547) hb);have n11_:=aM_ (Kd.R_below (by exact rZ_ HO550) hb);have n12_:=aM_ (Kd.R_below (by exact rZ_ HO553) hb);have n13_:=aM_ (blk_below (g:=gb502) (o:=.cells #[.bool t492,.slice Ao13 t493.length co13,.slice Ao14 t496.length co14,.slice Ao15 t499.length co15] 29 (0,0)) (by exact kZ_ BK502) hb);have n14_:=aM_ (blk_below (g:=gb520) (o:=.cells #[.bool t509,.slice Ao23 t510.length co23,.slice Ao24 t513.length co24,.slice Ao25 t516.length co25] 29 (0,0)) (by exact kZ_ BK520) hb);have n15_:=aM_ (blk_below (g:=gb532) (o:=.cells #[.bool t521,.slice Ao31 t522.length co31,.slice Ao32 t525.length co32,.slice Ao33 t528.length co33] 29 (0,0)) (by exact kZ_ BK532) hb);have n16_:=aM_ (blk_below (g:=gb555) (o:=.cells #[.bool t544,.slice Ao88 t545.length co88,.slice Ao89 t548.length co89,.slice Ao90 t551.length co90] 29 (0,0)) (by exact kZ_ BK555) hb);have n17_:=aM_ (bT_ (by exact bZ_ HB) hb);clear HO_4 HO_503001 HO_503002 HO_503003 HO_521001 HO_521002 HO_521003 HO_533001 HO_533002 HO_533003 HO547 HO550 HO553 BK502 BK520 BK532 BK555 HB;have HO_4:=n0_;have HO_503001:=n1_;have HO_503002:=n2_;have HO_503003:=n3_;have HO_521001:=n4_;have HO_521002:=n5_;have HO_521003:=n6_;have HO_533001:=n7_;have HO_533002:=n8_;have HO_533003:=n9_;have HO547:=n10_;have HO550:=n11_;have HO553:=n12_;have BK502:=n13_;have BK520:=n14_;have BK532:=n15_;have BK555:=n16_;have HB:=n17_;clear n0_ n1_ n2_ n3_ n4_ n5_ n6_ n7_ n8_ n9_ n10_ n11_ n12_ n13_ n14_ n15_ n16_ n17_ hb))
          go_ret
          exact ⟨by first | rfl | (simp [errW_none,errW_some] <;> rfl) | (simp [*, errW_none,errW_some] <;> rfl),by exact bZ_ HB⟩
         ·rw [if_neg c76] at H
          have c76b0 : ((t503.length : Int) == t558) = false:=beq_eq_false_iff_ne.mpr c76
          have c76b1 : ((t503.length : Int) != t558) = true:=bne_iff_ne.mpr c76
          exact absurd (H.trans (congrArg some hr_.out)) (by simp)
        ·replace c74:=Bool.eq_false_iff.mpr c74
         subst c74
         have H1 : (some false) = some r:=by rw [if_neg (show ¬ (false = true) by decide)] at H;exact H
         clear H
         have H:=H1
         clear H1
         exact absurd (H.trans (congrArg some hr_.out)) (by simp)
       ·replace c72:=Bool.eq_false_iff.mpr c72
        subst c72
        have H1 : (some false) = some r:=by rw [if_neg (show ¬ (false = true) by decide)] at H;exact H
        clear H
        have H:=H1
        clear H1
        exact absurd (H.trans (congrArg some hr_.out)) (by simp)
      ·replace c70:=Bool.eq_false_iff.mpr c70
       subst c70
       have H1 : (some false) = some r:=by rw [if_neg (show ¬ (false = true) by decide)] at H;exact H
       clear H
       have H:=H1
       clear H1
       exact absurd (H.trans (congrArg some hr_.out)) (by simp)
     ·replace c68:=Bool.eq_false_iff.mpr c68
      subst c68
      have H1 : (if (t503.length : Int) = 0 then ((impl_NodeOk.f kj8 t492 t493 t496 t499).bind fun t543=>(some (!t543))) else (some false)) = some r:=by rw [if_neg (show ¬ (false = true) by decide)] at H;exact H
      clear H
      have H:=H1
      clear H1
      by_cases c97 : (t503.length : Int) = 0
      ·rw [if_pos c97] at H
       have c97b0 : ((t503.length : Int) == 0) = true:=beq_iff_eq.mpr c97
       have c97b1 : ((t503.length : Int) != 0) = false:=bne_eq_false_iff_eq.mpr c97
       clear c97
       replace H:=oB_ H
       obtain ⟨t543,A980,H⟩:=H
       replace H : (some (!t543)) = some r:=H
       have A98:=aM_ A980
       clear A980
       obtain rfl:=Option.some.inj H
       have hnb99:=NB502_520.out
       have hnc99:=NB520_502.out
       have hnb100:=NB502_532.out
       have hnc100:=NB532_502.out
       have hcz101_0 : wc.cell? ⟨gb502,0,none⟩ = some (.bool t492):=(kC_ BK502.out 0).trans rfl
       have hcz101_1 : wc.cell? ⟨gb502,1,none⟩ = some (.slice Ao13 t493.length co13):=(kC_ BK502.out 1).trans rfl
       have hcz101_2 : wc.cell? ⟨gb502,2,none⟩ = some (.slice Ao14 t496.length co14):=(kC_ BK502.out 2).trans rfl
       have hcz101_3 : wc.cell? ⟨gb502,3,none⟩ = some (.slice Ao15 t499.length co15):=(kC_ BK502.out 3).trans rfl
       have hfz101_0:=kF_ BK502.out 0
       have hfz101_1:=kF_ BK502.out 1
       have hfz101_2:=kF_ BK502.out 2
       have hfz101_3:=kF_ BK502.out 3
       go_wp2_with (first | ((with_reducible refine gate_callee (f:=32) rfl ?_);refine goesL_ (some 56) rfl rfl Try.func32 (by kernel_rfl) rfl #[.agg #[.bool t492,.slice Ao13 t493.length co13,.slice Ao14 t496.length co14,.slice Ao15 t499.length co15]] rfl (by (try simp only [mA_,mC_,mN_]);first | done | rfl | (simp only [lD_,lT_];rfl)) ?_;(with_reducible refine (spec_NodeOk.calls kj8 t492 _ _ t493 _ _ t496 _ _ t499 false _ ?side1 ?side2 ?side3 ?side4 ?side5 ?side6 A67.out).mono ?_);(case side1=>repeat (first | exact (Kd.R_reads' HO_503001.out).2.2 | (with_reducible refine cA_ ?_ _) | (with_reducible refine cN_ ?_ _) | (with_reducible refine cD_ ?_)));(case side2=>exact (Kd.R_reads' HO_503001.out).2.1);(case side3=>repeat (first | exact (Kd.R_reads' HO_503002.out).2.2 | (with_reducible refine cA_ ?_ _) | (with_reducible refine cN_ ?_ _) | (with_reducible refine cD_ ?_)));(case side4=>exact (Kd.R_reads' HO_503002.out).2.1);(case side5=>repeat (first | exact (Kd.R_reads' HO_503003.out).2.2 | (with_reducible refine cA_ ?_ _) | (with_reducible refine cN_ ?_ _) | (with_reducible refine cD_ ?_)));(case side6=>exact (Kd.R_reads' HO_503003.out).2.1);rintro e w102 ⟨rfl,hb⟩;refine ⟨_,rfl,?_⟩;have n0_:=aM_ (Kd.R_below (by exact rZ_ HO_4) hb);have n1_:=aM_ (Kd.R_below (by exact rZ_ HO_503001) hb);have n2_:=aM_ (Kd.R_below (by exact rZ_ HO_503002) hb);have n3_:=aM_ (Kd.R_below (by exact rZ_ HO_503003) hb);have n4_:=aM_ (Kd.R_below (by exact rZ_ HO_521001) hb);have n5_:=aM_ (Kd.R_below (by exact rZ_ HO_521002) hb);have n6_:=aM_ (Kd.R_below (by exact rZ_ HO_521003) hb);have n7_:=aM_ (Kd.R_below (by exact rZ_ HO_533001) hb);have n8_:=aM_ (Kd.R_below (by exact rZ_ HO_533002) hb);have n9_:=aM_ (Kd.R_below (by exact rZ_ HO_533003) hb);have n10_:=aM_ (blk_below (g:=gb502) (o:=.cells #[.bool t492,.slice Ao13 t493.length co13,.slice Ao14 t496.length co14,.slice Ao15 t499.length co15] 29 (0,0)) (by exact kZ_ BK502) hb);have n11_:=aM_ (blk_below (g:=gb520) (o:=.cells #[.bool t509,.slice Ao23 t510.length co23,.slice Ao24 t513.length co24,.slice Ao25 t516.length co25] 29 (0,0)) (by exact kZ_ BK520) hb);have n12_:=aM_ (blk_below (g:=gb532) (o:=.cells #[.bool t521,.slice Ao31 t522.length co31,.slice Ao32 t525.length co32,.slice Ao33 t528.length co33] 29 (0,0)) (by exact kZ_ BK532) hb);have n13_:=aM_ (bT_ (by exact bZ_ HB) hb);clear HO_4 HO_503001 HO_503002 HO_503003 HO_521001 HO_521002 HO_521003 HO_533001 HO_533002 HO_533003 BK502 BK520 BK532 HB;have HO_4:=n0_;have HO_503001:=n1_;have HO_503002:=n2_;have HO_503003:=n3_;have HO_521001:=n4_;have HO_521002:=n5_;have HO_521003:=n6_;have HO_533001:=n7_;have HO_533002:=n8_;have HO_533003:=n9_;have BK502:=n10_;have BK520:=n11_;have BK532:=n12_;have HB:=n13_;clear n0_ n1_ n2_ n3_ n4_ n5_ n6_ n7_ n8_ n9_ n10_ n11_ n12_ n13_ hb;obtain ⟨Ao103,co103,eo103⟩:=Kd.R_slice HO_4.out;subst eo103;have hcz104_0 : w102.cell? ⟨gb502,0,none⟩ = some (.bool t492):=(kC_ BK502.out 0).trans rfl;have hcz104_1 : w102.cell? ⟨gb502,1,none⟩ = some (.slice Ao13 t493.length co13):=(kC_ BK502.out 1).trans rfl;have hcz104_2 : w102.cell? ⟨gb502,2,none⟩ = some (.slice Ao14 t496.length co14):=(kC_ BK502.out 2).trans rfl;have hcz104_3 : w102.cell? ⟨gb502,3,none⟩ = some (.slice Ao15 t499.length co15):=(kC_ BK502.out 3).trans rfl;have hfz104_0:=kF_ BK502.out 0;have hfz104_1:=kF_ BK502.out 1;have hfz104_2:=kF_ BK502.out 2;have hfz104_3:=kF_ BK502.out 3) | (go_at_call 28;(with_reducible refine (impl_NodeOk.calls kj8 t492 _ _ t493 _ _ t496 _ _ t499 t543 _ ?side1 ?side2 ?side3 ?side4 ?side5 ?side6 A98.out).mono ?_);(case side1=>repeat (first | exact (Kd.R_reads' HO_503001.out).2.2 | (with_reducible refine cA_ ?_ _) | (with_reducible refine cN_ ?_ _) | (with_reducible refine cD_ ?_)));(case side2=>exact (Kd.R_reads' HO_503001.out).2.1);(case side3=>repeat (first | exact (Kd.R_reads' HO_503002.out).2.2 | (with_reducible refine cA_ ?_ _) | (with_reducible refine cN_ ?_ _) | (with_reducible refine cD_ ?_)));(case side4=>exact (Kd.R_reads' HO_503002.out).2.1);(case side5=>repeat (first | exact (Kd.R_reads' HO_503003.out).2.2 | (with_reducible refine cA_ ?_ _) | (with_reducible refine cN_ ?_ _) | (with_reducible refine cD_ ?_)));(case side6=>exact (Kd.R_reads' HO_503003.out).2.1);rintro e w105 ⟨rfl,hb⟩;have n0_:=aM_ (Kd.R_below (by exact rZ_ HO_4) hb);have n1_:=aM_ (Kd.R_below (by exact rZ_ HO_503001) hb);have n2_:=aM_ (Kd.R_below (by exact rZ_ HO_503002) hb);have n3_:=aM_ (Kd.R_below (by exact rZ_ HO_503003) hb);have n4_:=aM_ (Kd.R_below (by exact rZ_ HO_521001) hb);have n5_:=aM_ (Kd.R_below (by exact rZ_ HO_521002) hb);have n6_:=aM_ (Kd.R_below (by exact rZ_ HO_521003) hb);have n7_:=aM_ (Kd.R_below (by exact rZ_ HO_533001) hb);have n8_:=aM_ (Kd.R_below (by exact rZ_ HO_533002) hb);have n9_:=aM_ (Kd.R_below (by exact rZ_ HO_533003) hb);have n10_:=aM_ (blk_below (g:=gb502) (o:=.cells #[.bool t492,.slice Ao13 t493.length co13,.slice Ao14 t496.length co14,.slice Ao15 t499.length co15] 29 (0,0)) (by exact kZ_ BK502) hb);have n11_:=aM_ (blk_below (g:=gb520) (o:=.cells #[.bool t509,.slice Ao23 t510.length co23,.slice Ao24 t513.length co24,.slice Ao25 t516.length co25] 29 (0,0)) (by exact kZ_ BK520) hb);have n12_:=aM_ (blk_below (g:=gb532) (o:=.cells #[.bool t521,.slice Ao31 t522.length co31,.slice Ao32 t525.length co32,.slice Ao33 t528.length co33] 29 (0,0)) (by exact kZ_ BK532) hb);have n13_:=aM_ (bT_ (by exact bZ_ HB) hb);clear HO_4 HO_503001 HO_503002 HO_503003 HO_521001 HO_521002 HO_521003 HO_533001 HO_533002 HO_533003 BK502 BK520 BK532 HB;have HO_4:=n0_;have HO_503001:=n1_;have HO_503002:=n2_;have HO_503003:=n3_;have HO_521001:=n4_;have HO_521002:=n5_;have HO_521003:=n6_;have HO_533001:=n7_;have HO_533002:=n8_;have HO_533003:=n9_;have BK502:=n10_;have BK520:=n11_;have BK532:=n12_;have HB:=n13_;clear n0_ n1_ n2_ n3_ n4_ n5_ n6_ n7_ n8_ n9_ n10_ n11_ n12_ n13_ hb))
       go_ret
       exact ⟨by first | rfl | (simp [errW_none,errW_some] <;> rfl) | (simp [*, errW_none,errW_some] <;> rfl),by exact bZ_ HB⟩
      ·rw [if_neg c97] at H
       have c97b0 : ((t503.length : Int) == 0) = false:=beq_eq_false_iff_ne.mpr c97
       have c97b1 : ((t503.length : Int) != 0) = true:=bne_iff_ne.mpr c97
       have c97b2 : ¬ (t503 = []):=fun h_=>c97 (by rw [h_];rfl)
       exact absurd (H.trans (congrArg some hr_.out)) (by simp)
end Go.Proofs.Ytllgmgpfdnofmaa.PFnNodes
