import Derived.Test.YtipehkeabnfngaaDoorZDSPFnExactDefsTextx0
import Derived.Test.YtipehkeabnfngaaDoorZDSPFnExactDefsTextx10
import Derived.Lib.SplitLaws
import Derived.Test.YtipehkeabnfngaaDoorZDSShelf
namespace Go.Proofs.YtipehkeabnfngaaDoor.PFnExactDefsText
open Go.RowKit Go.Proofs.YtipehkeabnfngaaDoorW.PrintWords Go.Proofs.YtipehkeabnfngaaDoorW.PrintLast Go.Proofs.YtipehkeabnfngaaDoorW.PrintMore Go.Proofs.YtipehkeabnfngaaDoor.Xtra
attribute [local go_sem] max2_int min2_int max_two min_two max_three min_three max_four min_four str_leq str_gtr str_geq setCell_drewN cell_set2 cell_set3   -- for this text's walks alone
set_option linter.unusedVariables false
set_option linter.unusedSimpArgs false
def spec_DefsText.l0 : Nat → List (S35) → ByteArray → Int → Option (ByteArray)
 | 0,_,_,_=>none
 | k + 1,x0,x3,x4=>if x4 < (x0.length : Int) then (if 0 ≤ x4 then ((spec_DefText.f k ((rd_T35 x0 x4).f0) ((rd_T35 x0 x4).f1) ((rd_T35 x0 x4).f2) ((rd_T35 x0 x4).f3)).bind fun t273=>(if x3.size + t273.size ≤ 9223372036854775807 then (if (x3 ++ t273).size + 1 ≤ 9223372036854775807 then (spec_DefsText.l0 k x0 ((x3 ++ t273) ++ (⟨#[10]⟩ : ByteArray)) (wrap64 (x4 + 1))) else (none)) else (none))) else (none)) else (some x3)
def spec_DefsText.f (k : Nat) (l0 : List (S35)) : Option (ByteArray):=spec_DefsText.l0 k l0 (⟨#[]⟩ : ByteArray) 0
theorem spec_DefsText.mono_l : ∀ k,(∀ y0 y1 y2,LeO (spec_DefsText.l0 k y0 y1 y2) (spec_DefsText.l0 (k + 1) y0 y1 y2))
 | 0=>fun _ _ _ r h=>by simp [spec_DefsText.l0] at h
 | k + 1=>by
  have ih0:=spec_DefsText.mono_l k
  ·intro y0 y1 y2
   unfold spec_DefsText.l0
   repeat' first
   | (with_reducible exact ih0 _ _ _)
   | (with_reducible exact spec_DefText.mono _ _ _ _ _)
   | (with_reducible exact LeO.refl _)
   | (with_reducible exact LeO.none _)
   | (with_reducible refine LeO.ite ?_ ?_)
   | (with_reducible refine LeO.bind ?_ (fun _=>?_))
   | exact ih0 _ _ _
   | exact spec_DefText.mono _ _ _ _ _
   | exact LeO.none _
   | refine LeO.ite ?_ ?_
   | refine LeO.bind ?_ (fun _=>?_)
theorem spec_DefsText.mono : ∀ a0 k,LeO (spec_DefsText.f k a0) (spec_DefsText.f (k + 1) a0):=by
 intro a0 k
 have ih0:=spec_DefsText.mono_l k
 unfold spec_DefsText.f
 repeat' first
   | (with_reducible exact ih0 _ _ _)
   | (with_reducible exact spec_DefText.mono _ _ _ _ _)
   | (with_reducible exact LeO.refl _)
   | (with_reducible exact LeO.none _)
   | (with_reducible refine LeO.ite ?_ ?_)
   | (with_reducible refine LeO.bind ?_ (fun _=>?_))
   | exact ih0 _ _ _
   | exact spec_DefText.mono _ _ _ _ _
   | exact LeO.none _
   | refine LeO.ite ?_ ?_
   | refine LeO.bind ?_ (fun _=>?_)
set_option maxHeartbeats 8000000 in
set_option maxRecDepth 100000 in
theorem spec_DefsText.calls (k : Nat) (A0 : Option Addr) (c0 : Nat) (l0 : List (S35)) (r : ByteArray) (w : World) (hr0 : Kd.C k35 w A0 l0.length l0) (hc0 : l0.length ≤ c0) (h : spec_DefsText.f k l0 = some r) :
  Calls Tryd.prog 31 #[.slice A0 l0.length c0] w fun e w'=>e = .returned (.string r) ∧ Below w.heap.size w w':=by
 have hu35:=Tryd.underlying35
 have HR0:=aM_ hr0
 have HC0:=aM_ hc0
 clear hr0 hc0
 have HB:=aM_ (Below.refl w.heap.size w)
 have H : (spec_DefsText.l0 k l0 (⟨#[]⟩ : ByteArray) 0) = some r:=h
 clear h
 have H':=aM_ H
 clear H
 go_enter Tryd.func31,Tryd.ntmps31
 go_wp2
 (try simp only [Act.put,sI_,sS_,sZ_])
 go_loopg [3,4] k (fun kq v3 v4 w'=>∃ (x3_1 : ByteArray) (x4_1 : Int),v3 = .string x3_1 ∧ v4 = .int .i64 x4_1 ∧ Aside0 (spec_DefsText.l0 kq l0 x3_1 x4_1 = some r) ∧ Aside0 (kq ≤ k) ∧ Aside0 (Below w.heap.size w w'))
 case atStart=>exact ⟨((⟨#[]⟩ : ByteArray)),(0),(by first | rfl | (simp;done) | (simp [*];done)),(by first | rfl | (simp;done) | (simp [*];done)),H', ⟨Nat.le_refl _⟩,⟨by exact bZ_ HB⟩⟩
 case round =>
  clear H'
  obtain ⟨x3_1,x4_1,rfl,rfl,HA,HK1,HB⟩:=hrel
  cases gk with
  | zero=>exact absurd HA.out (by simp [spec_DefsText.l0])
  | succ k1 =>
   have H:=HA.out
   clear HA
   simp only [spec_DefsText.l0] at H
   by_cases c2 : x4_1 < (l0.length : Int)
   ·rw [if_pos c2] at H
    have c2b0 : decide (x4_1 < (l0.length : Int)) = true:=decide_eq_true c2
    clear c2
    by_cases c3 : 0 ≤ x4_1
    ·rw [if_pos c3] at H
     have c3b0 : decide (0 ≤ x4_1) = true:=decide_eq_true c3
     clear c3
     replace H:=oB_ H
     obtain ⟨t273,A40,H⟩:=H
     replace H : (if x3_1.size + t273.size ≤ 9223372036854775807 then (if (x3_1 ++ t273).size + 1 ≤ 9223372036854775807 then (spec_DefsText.l0 k1 l0 ((x3_1 ++ t273) ++ (⟨#[10]⟩ : ByteArray)) (wrap64 (x4_1 + 1))) else (none)) else (none)) = some r:=H
     have A4:=aM_ A40
     clear A40
     by_cases c5 : x3_1.size + t273.size ≤ 9223372036854775807
     ·rw [if_pos c5] at H
      have c5b0:=eq_true c5
      have c5b1 : decide (x3_1.size + t273.size ≤ 9223372036854775807) = true:=decide_eq_true c5
      try have c5b2 : (9223372036854775807 < x3_1.size + t273.size) = False:=eq_false (Nat.not_lt.2 c5)
      by_cases c6 : (x3_1 ++ t273).size + 1 ≤ 9223372036854775807
      ·rw [if_pos c6] at H
       have c6b0:=eq_true c6
       have c6b1 : decide ((x3_1 ++ t273).size + 1 ≤ 9223372036854775807) = true:=decide_eq_true c6
       try have c6b2 : (9223372036854775807 < (x3_1 ++ t273).size + 1) = False:=eq_false (Nat.not_lt.2 c6)
       have c6b3:=eq_false (Nat.not_lt.2 c6);(repeat rw [ByteArray.size_append] at c6b3)
       have H':=aM_ H
       clear H
       have p272 : 0 ≤ (x4_1 : Int):=oT_ (by first | (with_reducible assumption) | assumption)
       have q272 : x4_1 < (l0.length : Int):=oT_ (by first | (with_reducible assumption) | assumption)
       obtain ⟨ad272,A272_1,c272_1,A272_2,c272_2,A272_3,c272_3,e272,hx272_0,hx272_1,hx272_2,hx272_3,hl272_1,hi272_1,hl272_2,hi272_2,hl272_3,hi272_3⟩:=at_T35 HR0.out x4_1 p272 q272
       cases e272
       replace hx272_0:=(HB.out.cell (wL_ w _ hx272_0)).trans hx272_0
       replace hx272_1:=(HB.out.cell (wL_ w _ hx272_1)).trans hx272_1
       replace hx272_2:=(HB.out.cell (wL_ w _ hx272_2)).trans hx272_2
       replace hx272_3:=(HB.out.cell (wL_ w _ hx272_3)).trans hx272_3
       have HR272_1:=aM_ hi272_1
       have HC272_1:=aM_ hl272_1
       clear hi272_1 hl272_1
       have HR272_2:=aM_ hi272_2
       have HC272_2:=aM_ hl272_2
       clear hi272_2 hl272_2
       have HR272_3:=aM_ hi272_3
       have HC272_3:=aM_ hl272_3
       clear hi272_3 hl272_3
       replace p272:=eq_true p272
       replace q272:=eq_true q272
       go_wp2_with (first | ((with_reducible refine gate_callee (f:=25) rfl ?_);refine goesL_ (some 16) rfl rfl Tryd.func25 (by kernel_rfl) rfl #[.agg #[.string ((rd_T35 l0 x4_1).f0),.slice A272_1 ((rd_T35 l0 x4_1).f1).length c272_1,.slice A272_2 ((rd_T35 l0 x4_1).f2).length c272_2,.slice A272_3 ((rd_T35 l0 x4_1).f3).length c272_3]] rfl (by (try simp only [mA_,mC_,mN_]);first | done | rfl | (simp only [lD_,lT_];rfl)) ?_;(with_reducible refine (spec_DefText.calls k1 ((rd_T35 l0 x4_1).f0) _ _ ((rd_T35 l0 x4_1).f1) _ _ ((rd_T35 l0 x4_1).f2) _ _ ((rd_T35 l0 x4_1).f3) t273 _ ?side1 ?side2 ?side3 ?side4 ?side5 ?side6 A4.out).mono ?_);(case side1=>exact cZ_ HR272_1 HB);(case side2=>exact HC272_1.out);(case side3=>exact cZ_ HR272_2 HB);(case side4=>exact HC272_2.out);(case side5=>exact cZ_ HR272_3 HB);(case side6=>exact HC272_3.out);rintro e w7 ⟨rfl,hb⟩;refine ⟨_,rfl,?_⟩;have n0_:=aM_ (bT_ (by exact bZ_ HB) hb);clear HB;have HB:=n0_;clear n0_ hb))
       go_roundg k1
       case measure=>have:=HK1.out;omega
       case rel=>exact ⟨((x3_1 ++ t273) ++ (⟨#[10]⟩ : ByteArray)),(wrap64 (x4_1 + 1)),(by first | rfl | (simp;done) | (simp [*];done)),(by first | rfl | (simp;done) | (simp [*];done)),H', ⟨by have:=HK1.out;omega⟩,⟨by exact bZ_ HB⟩⟩
      ·rw [if_neg c6] at H
       exact absurd H (by simp)
     ·rw [if_neg c5] at H
      exact absurd H (by simp)
    ·rw [if_neg c3] at H
     exact absurd H (by simp)
   ·rw [if_neg c2] at H
    have c2b0 : decide (x4_1 < (l0.length : Int)) = false:=decide_eq_false c2
    clear c2
    obtain rfl:=Option.some.inj H
    go_wp2
    go_ret
    exact ⟨by first | rfl | (simp [errW_none,errW_some] <;> rfl) | (simp [*, errW_none,errW_some] <;> rfl),by exact bZ_ HB⟩
def spaceB : ByteArray:=⟨#[32]⟩
def strings_Split.f (a0 : ByteArray) (a1 : ByteArray) : Option (List ByteArray):=if a1 = spaceB ∧ a0.size < 4294967281 then some (Lib.splitB spaceB 0 (Lib.countB a0 spaceB) a0) else none
open Go.Shelf in
theorem strings_Split.at_ (s : ByteArray) (w : World) (hs : s.size < 4294967281) :
  Calls Tryd.prog 64 #[.string s,.string spaceB] w fun e w'=>e = .returned (.slice (some ⟨w.heap.size,0,none⟩) (Lib.countB s spaceB + 1) (Lib.countB s spaceB + 1)) ∧ w' = w.alloc (.cells ((Lib.splitB spaceB 0 (Lib.countB s spaceB) s).map Value.string).toArray 9):=by
 have h1 : 1 ≤ spaceB.size:=Nat.le_refl 1
 have hle:=Lib.countB_le spaceB h1 s.size s (Nat.le_refl _)
 have hlen:=Lib.splitB_all spaceB h1 0 _ s rfl
 have c:=Any.strings_genSplit_core Tryd.lays221 (by kernel_rfl) s spaceB 0 (-1) (Lib.countB s spaceB + 1) w hs h1 (Nat.zero_le _)
  (fun x c hx=>(Tryd.strings_Index_one x 32 _).mono fun e w' ⟨he,hw⟩=>⟨by rw [he,← Lib.index_one];rfl,hw⟩)
  ((Tryd.strings_Count_one s 32 w).mono fun e w' ⟨he,hw⟩=>⟨by
   rw [he]
   show _ = Ending.returned (Value.int .i64 ((Lib.count s.data.toList [32] : Nat) : Int))
   rw [Lib.count_one]
   rfl,hw⟩) (by decide) (by decide) (by rw [if_pos (by decide)];omega)
 rw [Nat.add_sub_cancel,hlen] at c
 have e2 : Lib.cellsOf (Lib.splitB spaceB 0 (Lib.countB s spaceB) s) (Lib.countB s spaceB + 1) = ((Lib.splitB spaceB 0 (Lib.countB s spaceB) s).map Value.string).toArray:=by rw [← hlen];exact Lib.cellsOf_full _
 rw [e2] at c
 go_enter Tryd.func64,Tryd.ntmps64
 go_wp2_with (go_at_call 110;refine c.mono ?_;rintro e w' ⟨rfl,hw⟩;rw [hw])
 go_ret
 exact ⟨rfl,rfl⟩
theorem strings_Split.calls (a0 a1 : ByteArray) (r : List ByteArray) (w : World) (h : strings_Split.f a0 a1 = some r) :
  Calls Tryd.prog 64 #[.string a0,.string a1] w fun e w'=>∃ v0_ : Value,e = .returned v0_ ∧ Kd.R Kd.string 9 w' w.heap.size (fun _=>True) v0_ r ∧ Below w.heap.size w w':=by
 unfold strings_Split.f at h
 by_cases hb : a1 = spaceB ∧ a0.size < 4294967281
 ·rw [if_pos hb] at h
  obtain rfl:=Option.some.inj h
  obtain ⟨rfl,hs⟩:=hb
  have hlen:=Lib.splitB_all spaceB (Nat.le_refl 1) 0 _ a0 rfl
  have hle:=Lib.countB_le spaceB (Nat.le_refl 1) a0.size a0 (Nat.le_refl _)
  refine (strings_Split.at_ a0 w hs).mono fun e w' ⟨he,hw⟩=>⟨_,he,?_,hw ▸ bA_ (Below.refl _ _) _⟩
  subst hw
  have ho:=World.ownsRow_lit (base:=w.heap.size) (e:=9) (size:=1) w ((Lib.splitB spaceB 0 (Lib.countB a0 spaceB) a0).map Value.string).toArray (Lib.countB a0 spaceB + 1) (Nat.le_refl _) (by simp only [maxLen];omega) (by simp [hlen])
  rw [List.toList_toArray,← hlen] at ho
  rw [← hlen]
  exact Kd.R_of_own (h1:=fun _=>rfl) (ok:=fun _=>True) ho (fun _ _=>trivial)
 ·rw [if_neg hb] at h
  cases h
def impl_in.f (a0 : Int) (a1 : Int) (a2 : Int) : Option (Bool):=if a0 ≥ a1 then (some (decide (a0 ≤ a2))) else (some false)
set_option maxHeartbeats 8000000 in
set_option maxRecDepth 100000 in
theorem impl_in.calls (a0 : Int) (a1 : Int) (a2 : Int) (r : Bool) (w : World) (h : impl_in.f a0 a1 a2 = some r) :
  Calls Tryd.prog 55 #[.int .i64 a0,.int .i64 a1,.int .i64 a2] w fun e w'=>e = .returned (.bool r) ∧ Drawn0 w w':=by
 have H : (if a0 ≥ a1 then (some (decide (a0 ≤ a2))) else (some false)) = some r:=h
 clear h
 by_cases c4 : a0 ≥ a1
 ·rw [if_pos c4] at H
  have c4b0 : decide (a1 ≤ a0) = true:=decide_eq_true c4
  clear c4
  obtain rfl:=Option.some.inj H
  go_enter Tryd.func55,Tryd.ntmps55
  go_wp2
  go_ret
  exact ⟨by first | rfl | (simp;done) | (simp [*];done),by repeat (first | exact Drawn0.refl _ | apply Drawn0.step)⟩
 ·rw [if_neg c4] at H
  have c4b0 : decide (a1 ≤ a0) = false:=decide_eq_false c4
  clear c4
  obtain rfl:=Option.some.inj H
  go_enter Tryd.func55,Tryd.ntmps55
  go_wp2
  go_ret
  exact ⟨by first | rfl | (simp;done) | (simp [*];done),by repeat (first | exact Drawn0.refl _ | apply Drawn0.step)⟩
def impl_isLetter.f (a0 : Int) : Option (Bool):=if a0 ≥ 97 then (some (decide (a0 ≤ 122))) else (some false)
set_option maxHeartbeats 8000000 in
set_option maxRecDepth 100000 in
theorem impl_isLetter.calls (a0 : Int) (r : Bool) (w : World) (h : impl_isLetter.f a0 = some r) :
  Calls Tryd.prog 93 #[.int .u8 a0] w fun e w'=>e = .returned (.bool r) ∧ Drawn0 w w':=by
 have H : (if a0 ≥ 97 then (some (decide (a0 ≤ 122))) else (some false)) = some r:=h
 clear h
 by_cases c2 : a0 ≥ 97
 ·rw [if_pos c2] at H
  have c2b0 : decide (97 ≤ a0) = true:=decide_eq_true c2
  clear c2
  obtain rfl:=Option.some.inj H
  go_enter Tryd.func93,Tryd.ntmps93
  go_wp2
  go_ret
  exact ⟨by first | rfl | (simp;done) | (simp [*];done),by repeat (first | exact Drawn0.refl _ | apply Drawn0.step)⟩
 ·rw [if_neg c2] at H
  have c2b0 : decide (97 ≤ a0) = false:=decide_eq_false c2
  clear c2
  obtain rfl:=Option.some.inj H
  go_enter Tryd.func93,Tryd.ntmps93
  go_wp2
  go_ret
  exact ⟨by first | rfl | (simp;done) | (simp [*];done),by repeat (first | exact Drawn0.refl _ | apply Drawn0.step)⟩
def impl_isDigit.f (a0 : Int) : Option (Bool):=if a0 ≥ 48 then (some (decide (a0 ≤ 57))) else (some false)
set_option maxHeartbeats 8000000 in
set_option maxRecDepth 100000 in
theorem impl_isDigit.calls (a0 : Int) (r : Bool) (w : World) (h : impl_isDigit.f a0 = some r) :
  Calls Tryd.prog 94 #[.int .u8 a0] w fun e w'=>e = .returned (.bool r) ∧ Drawn0 w w':=by
 have H : (if a0 ≥ 48 then (some (decide (a0 ≤ 57))) else (some false)) = some r:=h
 clear h
 by_cases c2 : a0 ≥ 48
 ·rw [if_pos c2] at H
  have c2b0 : decide (48 ≤ a0) = true:=decide_eq_true c2
  clear c2
  obtain rfl:=Option.some.inj H
  go_enter Tryd.func94,Tryd.ntmps94
  go_wp2
  go_ret
  exact ⟨by first | rfl | (simp;done) | (simp [*];done),by repeat (first | exact Drawn0.refl _ | apply Drawn0.step)⟩
 ·rw [if_neg c2] at H
  have c2b0 : decide (48 ≤ a0) = false:=decide_eq_false c2
  clear c2
  obtain rfl:=Option.some.inj H
  go_enter Tryd.func94,Tryd.ntmps94
  go_wp2
  go_ret
  exact ⟨by first | rfl | (simp;done) | (simp [*];done),by repeat (first | exact Drawn0.refl _ | apply Drawn0.step)⟩
def impl_nameOk.l0 : Nat → ByteArray → Int → Option (Bool)
 | 0,_,_=>none
 | k + 1,x0,x3=>if x3 < (x0.size : Int) then (if 0 ≤ x3 then ((impl_isLetter.f (bt x0 x3)).bind fun t275=>(if t275 = true then (impl_nameOk.l0 k x0 (wrap64 (x3 + 1))) else (if x3 = 0 then (some false) else ((impl_isDigit.f (bt x0 x3)).bind fun t276=>(if t276 = true then (impl_nameOk.l0 k x0 (wrap64 (x3 + 1))) else (some false)))))) else (none)) else ((impl_in.f (x0.size : Int) 1 8).bind fun t274=>(some t274))
def impl_nameOk.f (k : Nat) (a0 : ByteArray) : Option (Bool):=impl_nameOk.l0 k a0 0
theorem impl_nameOk.mono_l : ∀ k,(∀ y0 y1,LeO (impl_nameOk.l0 k y0 y1) (impl_nameOk.l0 (k + 1) y0 y1))
 | 0=>fun _ _ r h=>by simp [impl_nameOk.l0] at h
 | k + 1=>by
  have ih0:=impl_nameOk.mono_l k
  ·intro y0 y1
   unfold impl_nameOk.l0
   repeat' first
   | (with_reducible exact ih0 _ _)
   | (with_reducible exact LeO.refl _)
   | (with_reducible exact LeO.none _)
   | (with_reducible refine LeO.ite ?_ ?_)
   | (with_reducible refine LeO.bind ?_ (fun _=>?_))
   | exact ih0 _ _
   | exact LeO.none _
   | refine LeO.ite ?_ ?_
   | refine LeO.bind ?_ (fun _=>?_)
theorem impl_nameOk.mono : ∀ a0 k,LeO (impl_nameOk.f k a0) (impl_nameOk.f (k + 1) a0):=by
 intro a0 k
 have ih0:=impl_nameOk.mono_l k
 unfold impl_nameOk.f
 repeat' first
   | (with_reducible exact ih0 _ _)
   | (with_reducible exact LeO.refl _)
   | (with_reducible exact LeO.none _)
   | (with_reducible refine LeO.ite ?_ ?_)
   | (with_reducible refine LeO.bind ?_ (fun _=>?_))
   | exact ih0 _ _
   | exact LeO.none _
   | refine LeO.ite ?_ ?_
   | refine LeO.bind ?_ (fun _=>?_)
set_option maxHeartbeats 8000000 in
set_option maxRecDepth 100000 in
theorem impl_nameOk.calls (k : Nat) (a0 : ByteArray) (r : Bool) (w : World) (h : impl_nameOk.f k a0 = some r) :
  Calls Tryd.prog 135 #[.string a0] w fun e w'=>e = .returned (.bool r) ∧ Drawn0 w w':=by
 have H : (impl_nameOk.l0 k a0 0) = some r:=h
 clear h
 have H':=aM_ H
 clear H
 go_enter Tryd.func135,Tryd.ntmps135
 go_wp2
 (try simp only [Act.put,sI_,sS_,sZ_])
 go_loopg [3] k (fun kq v3 w'=>∃ (x3_1 : Int),v3 = .int .i64 x3_1 ∧ Aside0 (impl_nameOk.l0 kq a0 x3_1 = some r) ∧ Aside0 (kq ≤ k) ∧ Drawn0 w w')
 case atStart=>exact ⟨(0),(by first | rfl | (simp;done) | (simp [*];done)),H', ⟨Nat.le_refl _⟩,by repeat (first | exact Drawn0.refl _ | apply Drawn0.step)⟩
 case round =>
  clear H'
  obtain ⟨x3_1,rfl,HA,HK1,⟨m1,rfl⟩⟩:=hrel
  cases gk with
  | zero=>exact absurd HA.out (by simp [impl_nameOk.l0])
  | succ k1 =>
   have H:=HA.out
   clear HA
   simp only [impl_nameOk.l0] at H
   by_cases c2 : x3_1 < (a0.size : Int)
   ·rw [if_pos c2] at H
    have c2b0 : decide (x3_1 < (a0.size : Int)) = true:=decide_eq_true c2
    clear c2
    by_cases c3 : 0 ≤ x3_1
    ·rw [if_pos c3] at H
     have c3b0 : decide (0 ≤ x3_1) = true:=decide_eq_true c3
     clear c3
     replace H:=oB_ H
     obtain ⟨t275,A50,H⟩:=H
     replace H : (if t275 = true then (impl_nameOk.l0 k1 a0 (wrap64 (x3_1 + 1))) else (if x3_1 = 0 then (some false) else ((impl_isDigit.f (bt a0 x3_1)).bind fun t276=>(if t276 = true then (impl_nameOk.l0 k1 a0 (wrap64 (x3_1 + 1))) else (some false))))) = some r:=H
     have A5:=aM_ A50
     clear A50
     by_cases c6 : t275 = true
     ·subst c6
      have H1 : (impl_nameOk.l0 k1 a0 (wrap64 (x3_1 + 1))) = some r:=by rw [if_pos rfl] at H;exact H
      clear H
      have H:=H1
      clear H1
      have H':=aM_ H
      clear H
      have p4 : 0 ≤ (x3_1 : Int):=oT_ (by first | (with_reducible assumption) | assumption)
      have q4 : x3_1 < (a0.size : Int):=oT_ (by first | (with_reducible assumption) | assumption)
      have hx4:=bt_at a0 x3_1
      replace p4:=eq_true p4
      replace q4:=eq_true q4
      go_wp2_with (first | ((with_reducible refine gate_callee (f:=93) rfl ?_);refine goesL_ (some 13) rfl rfl Tryd.func93 (by kernel_rfl) rfl #[.int .u8 (bt a0 x3_1)] rfl (by (try simp only [mA_,mC_,mN_]);first | done | rfl | (simp only [lD_,lT_];rfl)) ?_;(with_reducible refine (impl_isLetter.calls (bt a0 x3_1) true _ A5.out).mono ?_);rintro e w' ⟨rfl,⟨nd,rfl⟩⟩;refine ⟨_,rfl,?_⟩))
      go_roundg k1
      case measure=>have:=HK1.out;omega
      case rel=>exact ⟨(wrap64 (x3_1 + 1)),(by first | rfl | (simp;done) | (simp [*];done)),H', ⟨by have:=HK1.out;omega⟩,by repeat (first | exact Drawn0.refl _ | apply Drawn0.step)⟩
     ·replace c6:=Bool.eq_false_iff.mpr c6
      subst c6
      have H1 : (if x3_1 = 0 then (some false) else ((impl_isDigit.f (bt a0 x3_1)).bind fun t276=>(if t276 = true then (impl_nameOk.l0 k1 a0 (wrap64 (x3_1 + 1))) else (some false)))) = some r:=by rw [if_neg (show ¬ (false = true) by decide)] at H;exact H
      clear H
      have H:=H1
      clear H1
      by_cases c7 : x3_1 = 0
      ·rw [if_pos c7] at H
       have c7b0 : (x3_1 == 0) = true:=beq_iff_eq.mpr c7
       have c7b1 : (x3_1 != 0) = false:=bne_eq_false_iff_eq.mpr c7
       clear c7
       obtain rfl:=Option.some.inj H
       have p4 : 0 ≤ (x3_1 : Int):=oT_ (by first | (with_reducible assumption) | assumption)
       have q4 : x3_1 < (a0.size : Int):=oT_ (by first | (with_reducible assumption) | assumption)
       have hx4:=bt_at a0 x3_1
       replace p4:=eq_true p4
       replace q4:=eq_true q4
       go_wp2_with (first | ((with_reducible refine gate_callee (f:=93) rfl ?_);refine goesL_ (some 13) rfl rfl Tryd.func93 (by kernel_rfl) rfl #[.int .u8 (bt a0 x3_1)] rfl (by (try simp only [mA_,mC_,mN_]);first | done | rfl | (simp only [lD_,lT_];rfl)) ?_;(with_reducible refine (impl_isLetter.calls (bt a0 x3_1) false _ A5.out).mono ?_);rintro e w' ⟨rfl,⟨nd,rfl⟩⟩;refine ⟨_,rfl,?_⟩))
       go_ret
       exact ⟨by first | rfl | (simp;done) | (simp [*];done),by repeat (first | exact Drawn0.refl _ | apply Drawn0.step)⟩
      ·rw [if_neg c7] at H
       have c7b0 : (x3_1 == 0) = false:=beq_eq_false_iff_ne.mpr c7
       have c7b1 : (x3_1 != 0) = true:=bne_iff_ne.mpr c7
       replace H:=oB_ H
       obtain ⟨t276,A90,H⟩:=H
       replace H : (if t276 = true then (impl_nameOk.l0 k1 a0 (wrap64 (x3_1 + 1))) else (some false)) = some r:=H
       have A9:=aM_ A90
       clear A90
       by_cases c10 : t276 = true
       ·subst c10
        have H1 : (impl_nameOk.l0 k1 a0 (wrap64 (x3_1 + 1))) = some r:=by rw [if_pos rfl] at H;exact H
        clear H
        have H:=H1
        clear H1
        have H':=aM_ H
        clear H
        have p4 : 0 ≤ (x3_1 : Int):=oT_ (by first | (with_reducible assumption) | assumption)
        have q4 : x3_1 < (a0.size : Int):=oT_ (by first | (with_reducible assumption) | assumption)
        have hx4:=bt_at a0 x3_1
        replace p4:=eq_true p4
        replace q4:=eq_true q4
        go_wp2_with (first | ((with_reducible refine gate_callee (f:=93) rfl ?_);refine goesL_ (some 13) rfl rfl Tryd.func93 (by kernel_rfl) rfl #[.int .u8 (bt a0 x3_1)] rfl (by (try simp only [mA_,mC_,mN_]);first | done | rfl | (simp only [lD_,lT_];rfl)) ?_;(with_reducible refine (impl_isLetter.calls (bt a0 x3_1) false _ A5.out).mono ?_);rintro e w' ⟨rfl,⟨nd,rfl⟩⟩;refine ⟨_,rfl,?_⟩;have p8 : 0 ≤ (x3_1 : Int):=oT_ (by first | (with_reducible assumption) | assumption);have q8 : x3_1 < (a0.size : Int):=oT_ (by first | (with_reducible assumption) | assumption);have hx8:=bt_at a0 x3_1;replace p8:=eq_true p8;replace q8:=eq_true q8) | (go_at_call 94;(with_reducible refine (impl_isDigit.calls (bt a0 x3_1) true _ A9.out).mono ?_);rintro e w' ⟨rfl,⟨nd,rfl⟩⟩))
        go_roundg k1
        case measure=>have:=HK1.out;omega
        case rel=>exact ⟨(wrap64 (x3_1 + 1)),(by first | rfl | (simp;done) | (simp [*];done)),H', ⟨by have:=HK1.out;omega⟩,by repeat (first | exact Drawn0.refl _ | apply Drawn0.step)⟩
       ·replace c10:=Bool.eq_false_iff.mpr c10
        subst c10
        have H1 : (some false) = some r:=by rw [if_neg (show ¬ (false = true) by decide)] at H;exact H
        clear H
        have H:=H1
        clear H1
        obtain rfl:=Option.some.inj H
        have p4 : 0 ≤ (x3_1 : Int):=oT_ (by first | (with_reducible assumption) | assumption)
        have q4 : x3_1 < (a0.size : Int):=oT_ (by first | (with_reducible assumption) | assumption)
        have hx4:=bt_at a0 x3_1
        replace p4:=eq_true p4
        replace q4:=eq_true q4
        go_wp2_with (first | ((with_reducible refine gate_callee (f:=93) rfl ?_);refine goesL_ (some 13) rfl rfl Tryd.func93 (by kernel_rfl) rfl #[.int .u8 (bt a0 x3_1)] rfl (by (try simp only [mA_,mC_,mN_]);first | done | rfl | (simp only [lD_,lT_];rfl)) ?_;(with_reducible refine (impl_isLetter.calls (bt a0 x3_1) false _ A5.out).mono ?_);rintro e w' ⟨rfl,⟨nd,rfl⟩⟩;refine ⟨_,rfl,?_⟩;have p8 : 0 ≤ (x3_1 : Int):=oT_ (by first | (with_reducible assumption) | assumption);have q8 : x3_1 < (a0.size : Int):=oT_ (by first | (with_reducible assumption) | assumption);have hx8:=bt_at a0 x3_1;replace p8:=eq_true p8;replace q8:=eq_true q8) | (go_at_call 94;(with_reducible refine (impl_isDigit.calls (bt a0 x3_1) false _ A9.out).mono ?_);rintro e w' ⟨rfl,⟨nd,rfl⟩⟩))
        go_ret
        exact ⟨by first | rfl | (simp;done) | (simp [*];done),by repeat (first | exact Drawn0.refl _ | apply Drawn0.step)⟩
    ·rw [if_neg c3] at H
     exact absurd H (by simp)
   ·rw [if_neg c2] at H
    have c2b0 : decide (x3_1 < (a0.size : Int)) = false:=decide_eq_false c2
    clear c2
    replace H:=oB_ H
    obtain ⟨t274,A110,H⟩:=H
    replace H : (some t274) = some r:=H
    have A11:=aM_ A110
    clear A110
    obtain rfl:=Option.some.inj H
    go_wp2_with (first | ((with_reducible refine gate_callee (f:=55) rfl ?_);refine goesL_ (some 28) rfl rfl Tryd.func55 (by kernel_rfl) rfl #[.int .i64 (a0.size : Int),.int .i64 1,.int .i64 8] rfl (by (try simp only [mA_,mC_,mN_]);first | done | rfl | (simp only [lD_,lT_];rfl)) ?_;(with_reducible refine (impl_in.calls (a0.size : Int) 1 8 t274 _ A11.out).mono ?_);rintro e w' ⟨rfl,⟨nd,rfl⟩⟩;refine ⟨_,rfl,?_⟩))
    go_ret
    exact ⟨by first | rfl | (simp;done) | (simp [*];done),by repeat (first | exact Drawn0.refl _ | apply Drawn0.step)⟩
def impl_isFree.l0 : Nat → ByteArray → List ByteArray → Int → Int → Option (Bool)
 | 0,_,_,_,_=>none
 | k + 1,x0,x5,x6,x7=>if x7 < x6 then (if 0 ≤ x7 then (if x7 < (x5.length : Int) then (if (rdOf ByteArray.empty x5 x7).toList = x0.toList then (some false) else (impl_isFree.l0 k x0 x5 x6 (wrap64 (x7 + 1)))) else (none)) else (none)) else ((impl_nameOk.f k x0).bind fun t281=>(some t281))
def impl_isFree.f (k : Nat) (a0 : ByteArray) : Option (Bool):=(strings_Split.f (⟨#[116,97,98,108,101,32,112,114,105,109,97,114,121,32,117,110,105,113,117,101,32,105,110,100,101,120,32,110,117,108,108,32,100,101,115,99,32,105,110,116,32,110,117,109,32,116,101,120,116,32,98,111,111,108]⟩ : ByteArray) (⟨#[32]⟩ : ByteArray)).bind fun t277=>(impl_isFree.l0 k a0 t277 (t277.length : Int) 0)
theorem impl_isFree.mono_l : ∀ k,(∀ y0 y1 y2 y3,LeO (impl_isFree.l0 k y0 y1 y2 y3) (impl_isFree.l0 (k + 1) y0 y1 y2 y3))
 | 0=>fun _ _ _ _ r h=>by simp [impl_isFree.l0] at h
 | k + 1=>by
  have ih0:=impl_isFree.mono_l k
  ·intro y0 y1 y2 y3
   unfold impl_isFree.l0
   repeat' first
   | (with_reducible exact ih0 _ _ _ _)
   | (with_reducible exact impl_nameOk.mono _ _)
   | (with_reducible exact LeO.refl _)
   | (with_reducible exact LeO.none _)
   | (with_reducible refine LeO.ite ?_ ?_)
   | (with_reducible refine LeO.bind ?_ (fun _=>?_))
   | exact ih0 _ _ _ _
   | exact impl_nameOk.mono _ _
   | exact LeO.none _
   | refine LeO.ite ?_ ?_
   | refine LeO.bind ?_ (fun _=>?_)
theorem impl_isFree.mono : ∀ a0 k,LeO (impl_isFree.f k a0) (impl_isFree.f (k + 1) a0):=by
 intro a0 k
 have ih0:=impl_isFree.mono_l k
 unfold impl_isFree.f
 repeat' first
   | (with_reducible exact ih0 _ _ _ _)
   | (with_reducible exact impl_nameOk.mono _ _)
   | (with_reducible exact LeO.refl _)
   | (with_reducible exact LeO.none _)
   | (with_reducible refine LeO.ite ?_ ?_)
   | (with_reducible refine LeO.bind ?_ (fun _=>?_))
   | exact ih0 _ _ _ _
   | exact impl_nameOk.mono _ _
   | exact LeO.none _
   | refine LeO.ite ?_ ?_
   | refine LeO.bind ?_ (fun _=>?_)
set_option maxHeartbeats 8000000 in
set_option maxRecDepth 100000 in
theorem impl_isFree.calls (k : Nat) (a0 : ByteArray) (r : Bool) (w : World) (h : impl_isFree.f k a0 = some r) :
  Calls Tryd.prog 106 #[.string a0] w fun e w'=>e = .returned (.bool r) ∧ Below w.heap.size w w':=by
 have HB:=aM_ (Below.refl w.heap.size w)
 have H : ((strings_Split.f (⟨#[116,97,98,108,101,32,112,114,105,109,97,114,121,32,117,110,105,113,117,101,32,105,110,100,101,120,32,110,117,108,108,32,100,101,115,99,32,105,110,116,32,110,117,109,32,116,101,120,116,32,98,111,111,108]⟩ : ByteArray) (⟨#[32]⟩ : ByteArray)).bind fun t277=>(impl_isFree.l0 k a0 t277 (t277.length : Int) 0)) = some r:=h
 clear h
 replace H:=oB_ H
 obtain ⟨t277,A20,H⟩:=H
 replace H : (impl_isFree.l0 k a0 t277 (t277.length : Int) 0) = some r:=H
 have A2:=aM_ A20
 clear A20
 have H':=aM_ H
 clear H
 go_enter Tryd.func106,Tryd.ntmps106
 go_wp2_with (first | ((with_reducible refine gate_callee (f:=64) rfl ?_);refine goesL_ (some 5) rfl rfl Tryd.func64 (by kernel_rfl) rfl #[.string (⟨#[116,97,98,108,101,32,112,114,105,109,97,114,121,32,117,110,105,113,117,101,32,105,110,100,101,120,32,110,117,108,108,32,100,101,115,99,32,105,110,116,32,110,117,109,32,116,101,120,116,32,98,111,111,108]⟩ : ByteArray),.string (⟨#[32]⟩ : ByteArray)] rfl (by (try simp only [mA_,mC_,mN_]);first | done | rfl | (simp only [lD_,lT_];rfl)) ?_;(with_reducible refine (strings_Split.calls (⟨#[116,97,98,108,101,32,112,114,105,109,97,114,121,32,117,110,105,113,117,101,32,105,110,100,101,120,32,110,117,108,108,32,100,101,115,99,32,105,110,116,32,110,117,109,32,116,101,120,116,32,98,111,111,108]⟩ : ByteArray) (⟨#[32]⟩ : ByteArray) t277 _ A2.out).mono ?_);rintro e w3 ⟨v278,rfl,ho0,hb⟩;refine ⟨_,rfl,?_⟩;have n0_:=aM_ (Kd.R_lower ho0 (bS_ (by exact bZ_ HB)));have n1_:=aM_ (bT_ (by exact bZ_ HB) hb);clear HB;have HO279:=n0_;have HB:=n1_;clear n0_ n1_ hb ho0;obtain ⟨Ao4,co4,eo4⟩:=Kd.R_slice HO279.out;subst eo4))
 (try simp only [Act.put,sI_,sS_,sZ_])
 go_loopg [7] k (fun kq v7 w'=>∃ (x7_1 : Int),v7 = .int .i64 x7_1 ∧ Aside0 (impl_isFree.l0 kq a0 t277 (t277.length : Int) x7_1 = some r) ∧ Aside0 (kq ≤ k) ∧ Aside0 (Kd.R Kd.string 9 w' w.heap.size (fun _=>True) (.slice Ao4 t277.length co4) t277) ∧ Aside0 (Below w.heap.size w w'))
 case atStart=>exact ⟨(0),(by first | rfl | (simp;done) | (simp [*];done)),H', ⟨Nat.le_refl _⟩,⟨by exact rZ_ HO279⟩,⟨by exact bZ_ HB⟩⟩
 case round =>
  clear H'
  obtain ⟨x7_1,rfl,HA,HK1,HO_5,HB⟩:=hrel
  cases gk with
  | zero=>exact absurd HA.out (by simp [impl_isFree.l0])
  | succ k1 =>
   have H:=HA.out
   clear HA
   simp only [impl_isFree.l0] at H
   by_cases c5 : x7_1 < (t277.length : Int)
   ·rw [if_pos c5] at H
    have c5b0 : decide (x7_1 < (t277.length : Int)) = true:=decide_eq_true c5
    clear c5
    by_cases c6 : 0 ≤ x7_1
    ·rw [if_pos c6] at H
     have c6b0 : decide (0 ≤ x7_1) = true:=decide_eq_true c6
     clear c6
     by_cases c7 : x7_1 < (t277.length : Int)
     ·rw [if_pos c7] at H
      have c7b0 : decide (x7_1 < (t277.length : Int)) = true:=decide_eq_true c7
      clear c7
      by_cases c8 : (rdOf ByteArray.empty t277 x7_1).toList = a0.toList
      ·rw [if_pos c8] at H
       have c8b0 : ((rdOf ByteArray.empty t277 x7_1).toList == a0.toList) = true:=beq_iff_eq.mpr c8
       have c8b1 : ((rdOf ByteArray.empty t277 x7_1).toList != a0.toList) = false:=bne_eq_false_iff_eq.mpr c8
       clear c8
       obtain rfl:=Option.some.inj H
       have p280 : 0 ≤ (x7_1 : Int):=oT_ (by first | (with_reducible assumption) | assumption)
       have q280 : x7_1 < (t277.length : Int):=oT_ (by first | (with_reducible assumption) | assumption)
       obtain ⟨ad280,e280,hx280_0⟩:=Kd.at_string (Kd.R_reads' HO_5.out).2.2 x7_1 p280 q280
       cases e280
       replace p280:=eq_true p280
       replace q280:=eq_true q280
       go_wp2
       go_ret
       exact ⟨by first | rfl | (simp [errW_none,errW_some] <;> rfl) | (simp [*, errW_none,errW_some] <;> rfl),by exact bZ_ HB⟩
      ·rw [if_neg c8] at H
       have c8b0 : ((rdOf ByteArray.empty t277 x7_1).toList == a0.toList) = false:=beq_eq_false_iff_ne.mpr c8
       have c8b1 : ((rdOf ByteArray.empty t277 x7_1).toList != a0.toList) = true:=bne_iff_ne.mpr c8
       have H':=aM_ H
       clear H
       have p280 : 0 ≤ (x7_1 : Int):=oT_ (by first | (with_reducible assumption) | assumption)
       have q280 : x7_1 < (t277.length : Int):=oT_ (by first | (with_reducible assumption) | assumption)
       obtain ⟨ad280,e280,hx280_0⟩:=Kd.at_string (Kd.R_reads' HO_5.out).2.2 x7_1 p280 q280
       cases e280
       replace p280:=eq_true p280
       replace q280:=eq_true q280
       go_wp2
       go_roundg k1
       case measure=>have:=HK1.out;omega
       case rel=>exact ⟨(wrap64 (x7_1 + 1)),(by first | rfl | (simp;done) | (simp [*];done)),H', ⟨by have:=HK1.out;omega⟩,⟨by exact rZ_ HO_5⟩,⟨by exact bZ_ HB⟩⟩
     ·rw [if_neg c7] at H
      exact absurd H (by simp)
    ·rw [if_neg c6] at H
     exact absurd H (by simp)
   ·rw [if_neg c5] at H
    have c5b0 : decide (x7_1 < (t277.length : Int)) = false:=decide_eq_false c5
    clear c5
    replace H:=oB_ H
    obtain ⟨t281,A90,H⟩:=H
    replace H : (some t281) = some r:=H
    have A9:=aM_ A90
    clear A90
    obtain rfl:=Option.some.inj H
    go_wp2_with (first | ((with_reducible refine gate_callee (f:=135) rfl ?_);refine goesL_ (some 16) rfl rfl Tryd.func135 (by kernel_rfl) rfl #[.string a0] rfl (by (try simp only [mA_,mC_,mN_]);first | done | rfl | (simp only [lD_,lT_];rfl)) ?_;(with_reducible refine (impl_nameOk.calls k1 a0 t281 _ A9.out).mono ?_);rintro e w' ⟨rfl,⟨nd,rfl⟩⟩;refine ⟨_,rfl,?_⟩))
    go_ret
    exact ⟨by first | rfl | (simp [errW_none,errW_some] <;> rfl) | (simp [*, errW_none,errW_some] <;> rfl),by exact bZ_ HB⟩
mutual
def impl_namesOk.l0 : Nat → List (S82) → Int → Int → ByteArray → List (S82) → List (S85) → List (S69) → Option (Bool)
 | 0,_,_,_,_,_,_,_=>none
 | k + 1,x8,x9,x10,x283000,x283001,x283002,x283003=>if x10 < x9 then (if 0 ≤ x10 then (if x10 < (x8.length : Int) then ((impl_isFree.f k ((rd_T82 x8 x10).f0)).bind fun t285=>(if t285 = true then (impl_namesOk.l0 k x8 x9 (wrap64 (x10 + 1)) x283000 x283001 x283002 x283003) else (some false))) else (none)) else (none)) else (impl_namesOk.l1 k x283003 (x283003.length : Int) 0 x283000 x283001 x283002 x283003)
def impl_namesOk.l1 : Nat → List (S69) → Int → Int → ByteArray → List (S82) → List (S85) → List (S69) → Option (Bool)
 | 0,_,_,_,_,_,_,_=>none
 | k + 1,x20,x21,x22,x283000,x283001,x283002,x283003=>if x22 < x21 then (if 0 ≤ x22 then (if x22 < (x20.length : Int) then ((impl_isFree.f k ((rd_T69 x20 x22).f0)).bind fun t288=>(if t288 = true then (impl_namesOk.l1 k x20 x21 (wrap64 (x22 + 1)) x283000 x283001 x283002 x283003) else (some false))) else (none)) else (none)) else ((impl_isFree.f k x283000).bind fun t289=>(some t289))
end
def impl_namesOk.f (k : Nat) (a0_0 : ByteArray) (l0_1 : List (S82)) (l0_2 : List (S85)) (l0_3 : List (S69)) : Option (Bool):=impl_namesOk.l0 k l0_1 (l0_1.length : Int) 0 a0_0 l0_1 l0_2 l0_3
theorem impl_namesOk.mono_l : ∀ k,(∀ y0 y1 y2 y3 y4 y5 y6,LeO (impl_namesOk.l0 k y0 y1 y2 y3 y4 y5 y6) (impl_namesOk.l0 (k + 1) y0 y1 y2 y3 y4 y5 y6)) ∧ (∀ y0 y1 y2 y3 y4 y5 y6,LeO (impl_namesOk.l1 k y0 y1 y2 y3 y4 y5 y6) (impl_namesOk.l1 (k + 1) y0 y1 y2 y3 y4 y5 y6))
 | 0=>⟨fun _ _ _ _ _ _ _ r h=>by simp [impl_namesOk.l0] at h,fun _ _ _ _ _ _ _ r h=>by simp [impl_namesOk.l1] at h⟩
 | k + 1=>by
  obtain ⟨ih0,ih1⟩:=impl_namesOk.mono_l k
  refine ⟨?_,?_⟩
  ·intro y0 y1 y2 y3 y4 y5 y6
   unfold impl_namesOk.l0
   repeat' first
   | (with_reducible exact ih0 _ _ _ _ _ _ _)
   | (with_reducible exact ih1 _ _ _ _ _ _ _)
   | (with_reducible exact impl_isFree.mono _ _)
   | (with_reducible exact LeO.refl _)
   | (with_reducible exact LeO.none _)
   | (with_reducible refine LeO.ite ?_ ?_)
   | (with_reducible refine LeO.bind ?_ (fun _=>?_))
   | exact ih0 _ _ _ _ _ _ _
   | exact ih1 _ _ _ _ _ _ _
   | exact impl_isFree.mono _ _
   | exact LeO.none _
   | refine LeO.ite ?_ ?_
   | refine LeO.bind ?_ (fun _=>?_)
  ·intro y0 y1 y2 y3 y4 y5 y6
   unfold impl_namesOk.l1
   repeat' first
   | (with_reducible exact ih0 _ _ _ _ _ _ _)
   | (with_reducible exact ih1 _ _ _ _ _ _ _)
   | (with_reducible exact impl_isFree.mono _ _)
   | (with_reducible exact LeO.refl _)
   | (with_reducible exact LeO.none _)
   | (with_reducible refine LeO.ite ?_ ?_)
   | (with_reducible refine LeO.bind ?_ (fun _=>?_))
   | exact ih0 _ _ _ _ _ _ _
   | exact ih1 _ _ _ _ _ _ _
   | exact impl_isFree.mono _ _
   | exact LeO.none _
   | refine LeO.ite ?_ ?_
   | refine LeO.bind ?_ (fun _=>?_)
theorem impl_namesOk.mono : ∀ a0 a1 a2 a3 k,LeO (impl_namesOk.f k a0 a1 a2 a3) (impl_namesOk.f (k + 1) a0 a1 a2 a3):=by
 intro a0 a1 a2 a3 k
 obtain ⟨ih0,ih1⟩:=impl_namesOk.mono_l k
 unfold impl_namesOk.f
 repeat' first
   | (with_reducible exact ih0 _ _ _ _ _ _ _)
   | (with_reducible exact ih1 _ _ _ _ _ _ _)
   | (with_reducible exact impl_isFree.mono _ _)
   | (with_reducible exact LeO.refl _)
   | (with_reducible exact LeO.none _)
   | (with_reducible refine LeO.ite ?_ ?_)
   | (with_reducible refine LeO.bind ?_ (fun _=>?_))
   | exact ih0 _ _ _ _ _ _ _
   | exact ih1 _ _ _ _ _ _ _
   | exact impl_isFree.mono _ _
   | exact LeO.none _
   | refine LeO.ite ?_ ?_
   | refine LeO.bind ?_ (fun _=>?_)
set_option maxHeartbeats 8000000 in
set_option maxRecDepth 100000 in
theorem impl_namesOk.calls (k : Nat) (a0_0 : ByteArray) (A0_1 : Option Addr) (c0_1 : Nat) (l0_1 : List (S82)) (A0_2 : Option Addr) (c0_2 : Nat) (l0_2 : List (S85)) (A0_3 : Option Addr) (c0_3 : Nat) (l0_3 : List (S69)) (r : Bool) (w : World) (hr0_1 : Kd.C k82 w A0_1 l0_1.length l0_1) (hc0_1 : l0_1.length ≤ c0_1) (hr0_2 : Kd.C k85 w A0_2 l0_2.length l0_2) (hc0_2 : l0_2.length ≤ c0_2) (hr0_3 : Kd.C k69 w A0_3 l0_3.length l0_3) (hc0_3 : l0_3.length ≤ c0_3) (h : impl_namesOk.f k a0_0 l0_1 l0_2 l0_3 = some r) :
  Calls Tryd.prog 54 #[.agg #[.string a0_0,.slice A0_1 l0_1.length c0_1,.slice A0_2 l0_2.length c0_2,.slice A0_3 l0_3.length c0_3]] w fun e w'=>e = .returned (.bool r) ∧ Below w.heap.size w w':=by
 have hu35:=Tryd.underlying35
 have hu82:=Tryd.underlying82
 have hu69:=Tryd.underlying69
 have HR0_1:=aM_ hr0_1
 have HC0_1:=aM_ hc0_1
 clear hr0_1 hc0_1
 have HR0_2:=aM_ hr0_2
 have HC0_2:=aM_ hc0_2
 clear hr0_2 hc0_2
 have HR0_3:=aM_ hr0_3
 have HC0_3:=aM_ hc0_3
 clear hr0_3 hc0_3
 have HB:=aM_ (Below.refl w.heap.size w)
 have H : (impl_namesOk.l0 k l0_1 (l0_1.length : Int) 0 a0_0 l0_1 l0_2 l0_3) = some r:=h
 clear h
 have H':=aM_ H
 clear H
 go_enter Tryd.func54,Tryd.ntmps54
 go_wp2_with (first | ((with_reducible refine gate_dst (N:=1) rfl ?_);refine box_event ?hg (N:=1) ?hd (cs:=#[.string a0_0,.slice A0_1 l0_1.length c0_1,.slice A0_2 l0_2.length c0_2,.slice A0_3 l0_3.length c0_3]) (t:=35) ?hr ?_;(case hd=>rfl);(case hg=>rfl);(case hr=>first | (go_simp;done) | (go_simp;rfl));intro gb282 hg w2 hbox hb;have n0_:=aM_ (bT_ (by exact bZ_ HB) hb);have n1_:=aM_ (hbox);have n2_:=aM_ ((by rw [hg];exact (bS_ (by exact bZ_ HB)) : w.heap.size ≤ gb282));have n3_:=aM_ ((by rw [hg];exact (bS_ (by exact bZ_ HB)) : w.heap.size ≤ gb282));clear HB;have HB:=n0_;have BK282:=n1_;have GW282:=n2_;have GE282:=n3_;clear n0_ n1_ n2_ n3_ hb hbox hg;have hcz3_0 : w2.cell? ⟨gb282,0,none⟩ = some (.string a0_0):=(kC_ BK282.out 0).trans rfl;have hcz3_1 : w2.cell? ⟨gb282,1,none⟩ = some (.slice A0_1 l0_1.length c0_1):=(kC_ BK282.out 1).trans rfl;have hcz3_2 : w2.cell? ⟨gb282,2,none⟩ = some (.slice A0_2 l0_2.length c0_2):=(kC_ BK282.out 2).trans rfl;have hcz3_3 : w2.cell? ⟨gb282,3,none⟩ = some (.slice A0_3 l0_3.length c0_3):=(kC_ BK282.out 3).trans rfl;have hfz3_0:=kF_ BK282.out 0;have hfz3_1:=kF_ BK282.out 1;have hfz3_2:=kF_ BK282.out 2;have hfz3_3:=kF_ BK282.out 3))
 (try simp only [Act.put,sI_,sS_,sZ_])
 go_loopg [10] k (fun kq v10 w'=>∃ (x10_1 : Int),v10 = .int .i64 x10_1 ∧ Aside0 (impl_namesOk.l0 kq l0_1 (l0_1.length : Int) x10_1 a0_0 l0_1 l0_2 l0_3 = some r) ∧ Aside0 (kq ≤ k) ∧ Aside0 (w'.heap[gb282]? = some (.cells #[.string a0_0,(.slice A0_1 l0_1.length c0_1),(.slice A0_2 l0_2.length c0_2),(.slice A0_3 l0_3.length c0_3)] 35 (0,0))) ∧ Aside0 (Below w.heap.size w w'))
 case atStart=>exact ⟨(0),(by first | rfl | (simp;done) | (simp [*];done)),H', ⟨Nat.le_refl _⟩,⟨by exact kZ_ BK282⟩,⟨by exact bZ_ HB⟩⟩
 case round =>
  clear H'
  clear hcz3_0 hcz3_1 hcz3_2 hcz3_3 hfz3_0 hfz3_1 hfz3_2 hfz3_3
  obtain ⟨x10_1,rfl,HA,HK1,BK282,HB⟩:=hrel
  cases gk with
  | zero=>exact absurd HA.out (by simp [impl_namesOk.l0])
  | succ k1 =>
   have H:=HA.out
   clear HA
   simp only [impl_namesOk.l0] at H
   by_cases c4 : x10_1 < (l0_1.length : Int)
   ·rw [if_pos c4] at H
    have c4b0 : decide (x10_1 < (l0_1.length : Int)) = true:=decide_eq_true c4
    clear c4
    by_cases c5 : 0 ≤ x10_1
    ·rw [if_pos c5] at H
     have c5b0 : decide (0 ≤ x10_1) = true:=decide_eq_true c5
     clear c5
     by_cases c6 : x10_1 < (l0_1.length : Int)
     ·rw [if_pos c6] at H
      have c6b0 : decide (x10_1 < (l0_1.length : Int)) = true:=decide_eq_true c6
      clear c6
      replace H:=oB_ H
      obtain ⟨t285,A70,H⟩:=H
      replace H : (if t285 = true then (impl_namesOk.l0 k1 l0_1 (l0_1.length : Int) (wrap64 (x10_1 + 1)) a0_0 l0_1 l0_2 l0_3) else (some false)) = some r:=H
      have A7:=aM_ A70
      clear A70
      by_cases c8 : t285 = true
      ·subst c8
       have H1 : (impl_namesOk.l0 k1 l0_1 (l0_1.length : Int) (wrap64 (x10_1 + 1)) a0_0 l0_1 l0_2 l0_3) = some r:=by rw [if_pos rfl] at H;exact H
       clear H
       have H:=H1
       clear H1
       have H':=aM_ H
       clear H
       have p283 : 0 ≤ (x10_1 : Int):=oT_ (by first | (with_reducible assumption) | assumption)
       have q283 : x10_1 < (l0_1.length : Int):=oT_ (by first | (with_reducible assumption) | assumption)
       obtain ⟨ad283,e283,hx283_0,hx283_1,hx283_2⟩:=at_T82 HR0_1.out x10_1 p283 q283
       cases e283
       replace hx283_0:=(HB.out.cell (wL_ w _ hx283_0)).trans hx283_0
       replace hx283_1:=(HB.out.cell (wL_ w _ hx283_1)).trans hx283_1
       replace hx283_2:=(HB.out.cell (wL_ w _ hx283_2)).trans hx283_2
       replace p283:=eq_true p283
       replace q283:=eq_true q283
       go_wp2_with (first | ((with_reducible refine gate_dst (N:=4) rfl ?_);refine box_event ?hg (N:=4) ?hd (cs:=#[.string (⟨#[]⟩ : ByteArray),.int .i64 0,.bool false]) (t:=82) ?hr ?_;(case hd=>rfl);(case hg=>rfl);(case hr=>first | (go_simp;done) | (go_simp;rfl));intro gb284 hg w9 hbox hb;have n0_:=aM_ (blk_below (g:=gb282) (o:=.cells #[.string a0_0,.slice (some ad283) l0_1.length c0_1,.slice A0_2 l0_2.length c0_2,.slice A0_3 l0_3.length c0_3] 35 (0,0)) (by exact kZ_ BK282) hb);have n1_:=aM_ (bT_ (by exact bZ_ HB) hb);have n2_:=aM_ (hbox);have n3_:=aM_ ((by rw [hg];exact (bS_ (by exact bZ_ HB)) : w.heap.size ≤ gb284));have n4_:=aM_ ((by rw [hg];exact (bS_ (by exact bZ_ HB)) : w.heap.size ≤ gb284));have n5_:=aM_ ((by rw [hg];exact nN_ (blk_lt (g:=gb282) (o:=.cells #[.string a0_0,.slice (some ad283) l0_1.length c0_1,.slice A0_2 l0_2.length c0_2,.slice A0_3 l0_3.length c0_3] 35 (0,0)) (by exact kZ_ BK282)) : gb282 ≠ gb284));have n6_:=aM_ ((by rw [hg];exact Nat.ne_of_gt (blk_lt (g:=gb282) (o:=.cells #[.string a0_0,.slice (some ad283) l0_1.length c0_1,.slice A0_2 l0_2.length c0_2,.slice A0_3 l0_3.length c0_3] 35 (0,0)) (by exact kZ_ BK282)) : gb284 ≠ gb282));clear BK282 HB;have BK282:=n0_;have HB:=n1_;have BK284:=n2_;have GW284:=n3_;have GE284:=n4_;have NB282_284:=n5_;have NB284_282:=n6_;clear n0_ n1_ n2_ n3_ n4_ n5_ n6_ hb hbox hg;have hnb10:=NB284_282.out;have hnc10:=NB282_284.out;have hcz11_0 : w9.cell? ⟨gb284,0,none⟩ = some (.string (⟨#[]⟩ : ByteArray)):=(kC_ BK284.out 0).trans rfl;have hcz11_1 : w9.cell? ⟨gb284,1,none⟩ = some (.int .i64 0):=(kC_ BK284.out 1).trans rfl;have hcz11_2 : w9.cell? ⟨gb284,2,none⟩ = some (.bool false):=(kC_ BK284.out 2).trans rfl;have hfz11_0:=kF_ BK284.out 0;have hfz11_1:=kF_ BK284.out 1;have hfz11_2:=kF_ BK284.out 2) | ((with_reducible refine gate_callee (f:=106) rfl ?_);refine goesL_ (some 16) rfl rfl Tryd.func106 (by kernel_rfl) rfl #[.string ((rd_T82 l0_1 x10_1).f0)] rfl (by (try simp only [mA_,mC_,mN_]);first | done | rfl | (simp only [lD_,lT_];rfl)) ?_;(with_reducible refine (impl_isFree.calls k1 ((rd_T82 l0_1 x10_1).f0) true _ A7.out).mono ?_);rintro e w12 ⟨rfl,hb⟩;refine ⟨_,rfl,?_⟩;have n0_:=aM_ (blk_below (g:=gb282) (o:=.cells #[.string a0_0,.slice (some ad283) l0_1.length c0_1,.slice A0_2 l0_2.length c0_2,.slice A0_3 l0_3.length c0_3] 35 (0,0)) (by exact kW_ BK282) hb);have n1_:=aM_ (blk_below (g:=gb284) (o:=.cells #[.string ((rd_T82 l0_1 x10_1).f0),.int .i64 ((rd_T82 l0_1 x10_1).f1),.bool ((rd_T82 l0_1 x10_1).f2)] 82 (0,0)) (by (with_reducible repeat (first | refine kN_ ?_ _ | refine kD_ ?_ | refine kA_ ?_ _));refine kP_ (cs:=#[.string ((rd_T82 l0_1 x10_1).f0),.int .i64 ((rd_T82 l0_1 x10_1).f1),.bool false]) ?_ 2 _ rfl;(with_reducible repeat (first | refine kN_ ?_ _ | refine kD_ ?_ | refine kA_ ?_ _));refine kP_ (cs:=#[.string ((rd_T82 l0_1 x10_1).f0),.int .i64 0,.bool false]) ?_ 1 _ rfl;(with_reducible repeat (first | refine kN_ ?_ _ | refine kD_ ?_ | refine kA_ ?_ _));refine kP_ (cs:=#[.string (⟨#[]⟩ : ByteArray),.int .i64 0,.bool false]) ?_ 0 _ rfl;exact kZ_ BK284) hb);have n2_:=aM_ (bT_ (by exact bZ_ HB) hb);clear BK282 BK284 HB;have BK282:=n0_;have BK284:=n1_;have HB:=n2_;clear n0_ n1_ n2_ hb))
       go_roundg k1
       case measure=>have:=HK1.out;omega
       case rel=>exact ⟨(wrap64 (x10_1 + 1)),(by first | rfl | (simp;done) | (simp [*];done)),H', ⟨by have:=HK1.out;omega⟩,⟨by exact kZ_ BK282⟩,⟨by exact bZ_ HB⟩⟩
      ·replace c8:=Bool.eq_false_iff.mpr c8
       subst c8
       have H1 : (some false) = some r:=by rw [if_neg (show ¬ (false = true) by decide)] at H;exact H
       clear H
       have H:=H1
       clear H1
       obtain rfl:=Option.some.inj H
       have p283 : 0 ≤ (x10_1 : Int):=oT_ (by first | (with_reducible assumption) | assumption)
       have q283 : x10_1 < (l0_1.length : Int):=oT_ (by first | (with_reducible assumption) | assumption)
       obtain ⟨ad283,e283,hx283_0,hx283_1,hx283_2⟩:=at_T82 HR0_1.out x10_1 p283 q283
       cases e283
       replace hx283_0:=(HB.out.cell (wL_ w _ hx283_0)).trans hx283_0
       replace hx283_1:=(HB.out.cell (wL_ w _ hx283_1)).trans hx283_1
       replace hx283_2:=(HB.out.cell (wL_ w _ hx283_2)).trans hx283_2
       replace p283:=eq_true p283
       replace q283:=eq_true q283
       go_wp2_with (first | ((with_reducible refine gate_dst (N:=4) rfl ?_);refine box_event ?hg (N:=4) ?hd (cs:=#[.string (⟨#[]⟩ : ByteArray),.int .i64 0,.bool false]) (t:=82) ?hr ?_;(case hd=>rfl);(case hg=>rfl);(case hr=>first | (go_simp;done) | (go_simp;rfl));intro gb284 hg w13 hbox hb;have n0_:=aM_ (blk_below (g:=gb282) (o:=.cells #[.string a0_0,.slice (some ad283) l0_1.length c0_1,.slice A0_2 l0_2.length c0_2,.slice A0_3 l0_3.length c0_3] 35 (0,0)) (by exact kZ_ BK282) hb);have n1_:=aM_ (bT_ (by exact bZ_ HB) hb);have n2_:=aM_ (hbox);have n3_:=aM_ ((by rw [hg];exact (bS_ (by exact bZ_ HB)) : w.heap.size ≤ gb284));have n4_:=aM_ ((by rw [hg];exact (bS_ (by exact bZ_ HB)) : w.heap.size ≤ gb284));have n5_:=aM_ ((by rw [hg];exact nN_ (blk_lt (g:=gb282) (o:=.cells #[.string a0_0,.slice (some ad283) l0_1.length c0_1,.slice A0_2 l0_2.length c0_2,.slice A0_3 l0_3.length c0_3] 35 (0,0)) (by exact kZ_ BK282)) : gb282 ≠ gb284));have n6_:=aM_ ((by rw [hg];exact Nat.ne_of_gt (blk_lt (g:=gb282) (o:=.cells #[.string a0_0,.slice (some ad283) l0_1.length c0_1,.slice A0_2 l0_2.length c0_2,.slice A0_3 l0_3.length c0_3] 35 (0,0)) (by exact kZ_ BK282)) : gb284 ≠ gb282));clear BK282 HB;have BK282:=n0_;have HB:=n1_;have BK284:=n2_;have GW284:=n3_;have GE284:=n4_;have NB282_284:=n5_;have NB284_282:=n6_;clear n0_ n1_ n2_ n3_ n4_ n5_ n6_ hb hbox hg;have hnb14:=NB284_282.out;have hnc14:=NB282_284.out;have hcz15_0 : w13.cell? ⟨gb284,0,none⟩ = some (.string (⟨#[]⟩ : ByteArray)):=(kC_ BK284.out 0).trans rfl;have hcz15_1 : w13.cell? ⟨gb284,1,none⟩ = some (.int .i64 0):=(kC_ BK284.out 1).trans rfl;have hcz15_2 : w13.cell? ⟨gb284,2,none⟩ = some (.bool false):=(kC_ BK284.out 2).trans rfl;have hfz15_0:=kF_ BK284.out 0;have hfz15_1:=kF_ BK284.out 1;have hfz15_2:=kF_ BK284.out 2) | ((with_reducible refine gate_callee (f:=106) rfl ?_);refine goesL_ (some 16) rfl rfl Tryd.func106 (by kernel_rfl) rfl #[.string ((rd_T82 l0_1 x10_1).f0)] rfl (by (try simp only [mA_,mC_,mN_]);first | done | rfl | (simp only [lD_,lT_];rfl)) ?_;(with_reducible refine (impl_isFree.calls k1 ((rd_T82 l0_1 x10_1).f0) false _ A7.out).mono ?_);rintro e w16 ⟨rfl,hb⟩;refine ⟨_,rfl,?_⟩;have n0_:=aM_ (blk_below (g:=gb282) (o:=.cells #[.string a0_0,.slice (some ad283) l0_1.length c0_1,.slice A0_2 l0_2.length c0_2,.slice A0_3 l0_3.length c0_3] 35 (0,0)) (by exact kW_ BK282) hb);have n1_:=aM_ (blk_below (g:=gb284) (o:=.cells #[.string ((rd_T82 l0_1 x10_1).f0),.int .i64 ((rd_T82 l0_1 x10_1).f1),.bool ((rd_T82 l0_1 x10_1).f2)] 82 (0,0)) (by (with_reducible repeat (first | refine kN_ ?_ _ | refine kD_ ?_ | refine kA_ ?_ _));refine kP_ (cs:=#[.string ((rd_T82 l0_1 x10_1).f0),.int .i64 ((rd_T82 l0_1 x10_1).f1),.bool false]) ?_ 2 _ rfl;(with_reducible repeat (first | refine kN_ ?_ _ | refine kD_ ?_ | refine kA_ ?_ _));refine kP_ (cs:=#[.string ((rd_T82 l0_1 x10_1).f0),.int .i64 0,.bool false]) ?_ 1 _ rfl;(with_reducible repeat (first | refine kN_ ?_ _ | refine kD_ ?_ | refine kA_ ?_ _));refine kP_ (cs:=#[.string (⟨#[]⟩ : ByteArray),.int .i64 0,.bool false]) ?_ 0 _ rfl;exact kZ_ BK284) hb);have n2_:=aM_ (bT_ (by exact bZ_ HB) hb);clear BK282 BK284 HB;have BK282:=n0_;have BK284:=n1_;have HB:=n2_;clear n0_ n1_ n2_ hb))
       go_ret
       exact ⟨by first | rfl | (simp [errW_none,errW_some] <;> rfl) | (simp [*, errW_none,errW_some] <;> rfl),by exact bZ_ HB⟩
     ·rw [if_neg c6] at H
      exact absurd H (by simp)
    ·rw [if_neg c5] at H
     exact absurd H (by simp)
   ·rw [if_neg c4] at H
    have c4b0 : decide (x10_1 < (l0_1.length : Int)) = false:=decide_eq_false c4
    clear c4
    have H':=aM_ H
    clear H
    have hcz17_0 : wr.cell? ⟨gb282,0,none⟩ = some (.string a0_0):=(kC_ BK282.out 0).trans rfl
    have hcz17_1 : wr.cell? ⟨gb282,1,none⟩ = some (.slice A0_1 l0_1.length c0_1):=(kC_ BK282.out 1).trans rfl
    have hcz17_2 : wr.cell? ⟨gb282,2,none⟩ = some (.slice A0_2 l0_2.length c0_2):=(kC_ BK282.out 2).trans rfl
    have hcz17_3 : wr.cell? ⟨gb282,3,none⟩ = some (.slice A0_3 l0_3.length c0_3):=(kC_ BK282.out 3).trans rfl
    have hfz17_0:=kF_ BK282.out 0
    have hfz17_1:=kF_ BK282.out 1
    have hfz17_2:=kF_ BK282.out 2
    have hfz17_3:=kF_ BK282.out 3
    go_wp2
    (try simp only [Act.put,sI_,sS_,sZ_])
    go_loopg [22] k1 (fun kq v22 w'=>∃ (x22_2 : Int),v22 = .int .i64 x22_2 ∧ Aside0 (impl_namesOk.l1 kq l0_3 (l0_3.length : Int) x22_2 a0_0 l0_1 l0_2 l0_3 = some r) ∧ Aside0 (kq ≤ k1) ∧ Aside0 (w'.heap[gb282]? = some (.cells #[.string a0_0,(.slice A0_1 l0_1.length c0_1),(.slice A0_2 l0_2.length c0_2),(.slice A0_3 l0_3.length c0_3)] 35 (0,0))) ∧ Aside0 (Below w.heap.size w w'))
    case atStart=>exact ⟨(0),(by first | rfl | (simp;done) | (simp [*];done)),H', ⟨Nat.le_refl _⟩,⟨by exact kZ_ BK282⟩,⟨by exact bZ_ HB⟩⟩
    case round =>
     clear H'
     clear c4b0 hcz17_0 hcz17_1 hcz17_2 hcz17_3 hfz17_0 hfz17_1 hfz17_2 hfz17_3
     obtain ⟨x22_2,rfl,HA,HK2,BK282,HB⟩:=hrel
     cases gk with
     | zero=>exact absurd HA.out (by simp [impl_namesOk.l1])
     | succ k2 =>
      have H:=HA.out
      clear HA
      simp only [impl_namesOk.l1] at H
      by_cases c18 : x22_2 < (l0_3.length : Int)
      ·rw [if_pos c18] at H
       have c18b0 : decide (x22_2 < (l0_3.length : Int)) = true:=decide_eq_true c18
       clear c18
       by_cases c19 : 0 ≤ x22_2
       ·rw [if_pos c19] at H
        have c19b0 : decide (0 ≤ x22_2) = true:=decide_eq_true c19
        clear c19
        by_cases c20 : x22_2 < (l0_3.length : Int)
        ·rw [if_pos c20] at H
         have c20b0 : decide (x22_2 < (l0_3.length : Int)) = true:=decide_eq_true c20
         clear c20
         replace H:=oB_ H
         obtain ⟨t288,A210,H⟩:=H
         replace H : (if t288 = true then (impl_namesOk.l1 k2 l0_3 (l0_3.length : Int) (wrap64 (x22_2 + 1)) a0_0 l0_1 l0_2 l0_3) else (some false)) = some r:=H
         have A21:=aM_ A210
         clear A210
         by_cases c22 : t288 = true
         ·subst c22
          have H1 : (impl_namesOk.l1 k2 l0_3 (l0_3.length : Int) (wrap64 (x22_2 + 1)) a0_0 l0_1 l0_2 l0_3) = some r:=by rw [if_pos rfl] at H;exact H
          clear H
          have H:=H1
          clear H1
          have H':=aM_ H
          clear H
          have p286 : 0 ≤ (x22_2 : Int):=oT_ (by first | (with_reducible assumption) | assumption)
          have q286 : x22_2 < (l0_3.length : Int):=oT_ (by first | (with_reducible assumption) | assumption)
          obtain ⟨ad286,A286_2,c286_2,e286,hx286_0,hx286_1,hx286_2,hl286_2,hi286_2⟩:=at_T69 HR0_3.out x22_2 p286 q286
          cases e286
          replace hx286_0:=(HB.out.cell (wL_ w _ hx286_0)).trans hx286_0
          replace hx286_1:=(HB.out.cell (wL_ w _ hx286_1)).trans hx286_1
          replace hx286_2:=(HB.out.cell (wL_ w _ hx286_2)).trans hx286_2
          have HR286_2:=aM_ hi286_2
          have HC286_2:=aM_ hl286_2
          clear hi286_2 hl286_2
          replace p286:=eq_true p286
          replace q286:=eq_true q286
          go_wp2_with (first | ((with_reducible refine gate_dst (N:=6) rfl ?_);refine box_event ?hg (N:=6) ?hd (cs:=#[.string (⟨#[]⟩ : ByteArray),.bool false,.slice none 0 0]) (t:=69) ?hr ?_;(case hd=>rfl);(case hg=>rfl);(case hr=>first | (go_simp;done) | (go_simp;rfl));intro gb287 hg w23 hbox hb;have n0_:=aM_ (blk_below (g:=gb282) (o:=.cells #[.string a0_0,.slice A0_1 l0_1.length c0_1,.slice A0_2 l0_2.length c0_2,.slice (some ad286) l0_3.length c0_3] 35 (0,0)) (by exact kZ_ BK282) hb);have n1_:=aM_ (bT_ (by exact bZ_ HB) hb);have n2_:=aM_ (hbox);have n3_:=aM_ ((by rw [hg];exact (bS_ (by exact bZ_ HB)) : w.heap.size ≤ gb287));have n4_:=aM_ ((by rw [hg];exact (bS_ (by exact bZ_ HB)) : w.heap.size ≤ gb287));have n5_:=aM_ ((by rw [hg];exact nN_ (blk_lt (g:=gb282) (o:=.cells #[.string a0_0,.slice A0_1 l0_1.length c0_1,.slice A0_2 l0_2.length c0_2,.slice (some ad286) l0_3.length c0_3] 35 (0,0)) (by exact kZ_ BK282)) : gb282 ≠ gb287));have n6_:=aM_ ((by rw [hg];exact Nat.ne_of_gt (blk_lt (g:=gb282) (o:=.cells #[.string a0_0,.slice A0_1 l0_1.length c0_1,.slice A0_2 l0_2.length c0_2,.slice (some ad286) l0_3.length c0_3] 35 (0,0)) (by exact kZ_ BK282)) : gb287 ≠ gb282));clear BK282 HB;have BK282:=n0_;have HB:=n1_;have BK287:=n2_;have GW287:=n3_;have GE287:=n4_;have NB282_287:=n5_;have NB287_282:=n6_;clear n0_ n1_ n2_ n3_ n4_ n5_ n6_ hb hbox hg;have hnb24:=NB287_282.out;have hnc24:=NB282_287.out;have hcz25_0 : w23.cell? ⟨gb287,0,none⟩ = some (.string (⟨#[]⟩ : ByteArray)):=(kC_ BK287.out 0).trans rfl;have hcz25_1 : w23.cell? ⟨gb287,1,none⟩ = some (.bool false):=(kC_ BK287.out 1).trans rfl;have hcz25_2 : w23.cell? ⟨gb287,2,none⟩ = some (.slice none 0 0):=(kC_ BK287.out 2).trans rfl;have hfz25_0:=kF_ BK287.out 0;have hfz25_1:=kF_ BK287.out 1;have hfz25_2:=kF_ BK287.out 2) | ((with_reducible refine gate_callee (f:=106) rfl ?_);refine goesL_ (some 28) rfl rfl Tryd.func106 (by kernel_rfl) rfl #[.string ((rd_T69 l0_3 x22_2).f0)] rfl (by (try simp only [mA_,mC_,mN_]);first | done | rfl | (simp only [lD_,lT_];rfl)) ?_;(with_reducible refine (impl_isFree.calls k2 ((rd_T69 l0_3 x22_2).f0) true _ A21.out).mono ?_);rintro e w26 ⟨rfl,hb⟩;refine ⟨_,rfl,?_⟩;have n0_:=aM_ (blk_below (g:=gb282) (o:=.cells #[.string a0_0,.slice A0_1 l0_1.length c0_1,.slice A0_2 l0_2.length c0_2,.slice (some ad286) l0_3.length c0_3] 35 (0,0)) (by exact kW_ BK282) hb);have n1_:=aM_ (blk_below (g:=gb287) (o:=.cells #[.string ((rd_T69 l0_3 x22_2).f0),.bool ((rd_T69 l0_3 x22_2).f1),.slice A286_2 ((rd_T69 l0_3 x22_2).f2).length c286_2] 69 (0,0)) (by (with_reducible repeat (first | refine kN_ ?_ _ | refine kD_ ?_ | refine kA_ ?_ _));refine kP_ (cs:=#[.string ((rd_T69 l0_3 x22_2).f0),.bool ((rd_T69 l0_3 x22_2).f1),.slice none 0 0]) ?_ 2 _ rfl;(with_reducible repeat (first | refine kN_ ?_ _ | refine kD_ ?_ | refine kA_ ?_ _));refine kP_ (cs:=#[.string ((rd_T69 l0_3 x22_2).f0),.bool false,.slice none 0 0]) ?_ 1 _ rfl;(with_reducible repeat (first | refine kN_ ?_ _ | refine kD_ ?_ | refine kA_ ?_ _));refine kP_ (cs:=#[.string (⟨#[]⟩ : ByteArray),.bool false,.slice none 0 0]) ?_ 0 _ rfl;exact kZ_ BK287) hb);have n2_:=aM_ (bT_ (by exact bZ_ HB) hb);clear BK282 BK287 HB;have BK282:=n0_;have BK287:=n1_;have HB:=n2_;clear n0_ n1_ n2_ hb))
          go_roundg k2
          case measure=>have:=HK1.out;have:=HK2.out;omega
          case rel=>exact ⟨(wrap64 (x22_2 + 1)),(by first | rfl | (simp;done) | (simp [*];done)),H', ⟨by have:=HK1.out;have:=HK2.out;omega⟩,⟨by exact kZ_ BK282⟩,⟨by exact bZ_ HB⟩⟩
         ·replace c22:=Bool.eq_false_iff.mpr c22
          subst c22
          have H1 : (some false) = some r:=by rw [if_neg (show ¬ (false = true) by decide)] at H;exact H
          clear H
          have H:=H1
          clear H1
          obtain rfl:=Option.some.inj H
          have p286 : 0 ≤ (x22_2 : Int):=oT_ (by first | (with_reducible assumption) | assumption)
          have q286 : x22_2 < (l0_3.length : Int):=oT_ (by first | (with_reducible assumption) | assumption)
          obtain ⟨ad286,A286_2,c286_2,e286,hx286_0,hx286_1,hx286_2,hl286_2,hi286_2⟩:=at_T69 HR0_3.out x22_2 p286 q286
          cases e286
          replace hx286_0:=(HB.out.cell (wL_ w _ hx286_0)).trans hx286_0
          replace hx286_1:=(HB.out.cell (wL_ w _ hx286_1)).trans hx286_1
          replace hx286_2:=(HB.out.cell (wL_ w _ hx286_2)).trans hx286_2
          have HR286_2:=aM_ hi286_2
          have HC286_2:=aM_ hl286_2
          clear hi286_2 hl286_2
          replace p286:=eq_true p286
          replace q286:=eq_true q286
          go_wp2_with (first | ((with_reducible refine gate_dst (N:=6) rfl ?_);refine box_event ?hg (N:=6) ?hd (cs:=#[.string (⟨#[]⟩ : ByteArray),.bool false,.slice none 0 0]) (t:=69) ?hr ?_;(case hd=>rfl);(case hg=>rfl);(case hr=>first | (go_simp;done) | (go_simp;rfl));intro gb287 hg w27 hbox hb;have n0_:=aM_ (blk_below (g:=gb282) (o:=.cells #[.string a0_0,.slice A0_1 l0_1.length c0_1,.slice A0_2 l0_2.length c0_2,.slice (some ad286) l0_3.length c0_3] 35 (0,0)) (by exact kZ_ BK282) hb);have n1_:=aM_ (bT_ (by exact bZ_ HB) hb);have n2_:=aM_ (hbox);have n3_:=aM_ ((by rw [hg];exact (bS_ (by exact bZ_ HB)) : w.heap.size ≤ gb287));have n4_:=aM_ ((by rw [hg];exact (bS_ (by exact bZ_ HB)) : w.heap.size ≤ gb287));have n5_:=aM_ ((by rw [hg];exact nN_ (blk_lt (g:=gb282) (o:=.cells #[.string a0_0,.slice A0_1 l0_1.length c0_1,.slice A0_2 l0_2.length c0_2,.slice (some ad286) l0_3.length c0_3] 35 (0,0)) (by exact kZ_ BK282)) : gb282 ≠ gb287));have n6_:=aM_ ((by rw [hg];exact Nat.ne_of_gt (blk_lt (g:=gb282) (o:=.cells #[.string a0_0,.slice A0_1 l0_1.length c0_1,.slice A0_2 l0_2.length c0_2,.slice (some ad286) l0_3.length c0_3] 35 (0,0)) (by exact kZ_ BK282)) : gb287 ≠ gb282));clear BK282 HB;have BK282:=n0_;have HB:=n1_;have BK287:=n2_;have GW287:=n3_;have GE287:=n4_;have NB282_287:=n5_;have NB287_282:=n6_;clear n0_ n1_ n2_ n3_ n4_ n5_ n6_ hb hbox hg;have hnb28:=NB287_282.out;have hnc28:=NB282_287.out;have hcz29_0 : w27.cell? ⟨gb287,0,none⟩ = some (.string (⟨#[]⟩ : ByteArray)):=(kC_ BK287.out 0).trans rfl;have hcz29_1 : w27.cell? ⟨gb287,1,none⟩ = some (.bool false):=(kC_ BK287.out 1).trans rfl;have hcz29_2 : w27.cell? ⟨gb287,2,none⟩ = some (.slice none 0 0):=(kC_ BK287.out 2).trans rfl;have hfz29_0:=kF_ BK287.out 0;have hfz29_1:=kF_ BK287.out 1;have hfz29_2:=kF_ BK287.out 2) | ((with_reducible refine gate_callee (f:=106) rfl ?_);refine goesL_ (some 28) rfl rfl Tryd.func106 (by kernel_rfl) rfl #[.string ((rd_T69 l0_3 x22_2).f0)] rfl (by (try simp only [mA_,mC_,mN_]);first | done | rfl | (simp only [lD_,lT_];rfl)) ?_;(with_reducible refine (impl_isFree.calls k2 ((rd_T69 l0_3 x22_2).f0) false _ A21.out).mono ?_);rintro e w30 ⟨rfl,hb⟩;refine ⟨_,rfl,?_⟩;have n0_:=aM_ (blk_below (g:=gb282) (o:=.cells #[.string a0_0,.slice A0_1 l0_1.length c0_1,.slice A0_2 l0_2.length c0_2,.slice (some ad286) l0_3.length c0_3] 35 (0,0)) (by exact kW_ BK282) hb);have n1_:=aM_ (blk_below (g:=gb287) (o:=.cells #[.string ((rd_T69 l0_3 x22_2).f0),.bool ((rd_T69 l0_3 x22_2).f1),.slice A286_2 ((rd_T69 l0_3 x22_2).f2).length c286_2] 69 (0,0)) (by (with_reducible repeat (first | refine kN_ ?_ _ | refine kD_ ?_ | refine kA_ ?_ _));refine kP_ (cs:=#[.string ((rd_T69 l0_3 x22_2).f0),.bool ((rd_T69 l0_3 x22_2).f1),.slice none 0 0]) ?_ 2 _ rfl;(with_reducible repeat (first | refine kN_ ?_ _ | refine kD_ ?_ | refine kA_ ?_ _));refine kP_ (cs:=#[.string ((rd_T69 l0_3 x22_2).f0),.bool false,.slice none 0 0]) ?_ 1 _ rfl;(with_reducible repeat (first | refine kN_ ?_ _ | refine kD_ ?_ | refine kA_ ?_ _));refine kP_ (cs:=#[.string (⟨#[]⟩ : ByteArray),.bool false,.slice none 0 0]) ?_ 0 _ rfl;exact kZ_ BK287) hb);have n2_:=aM_ (bT_ (by exact bZ_ HB) hb);clear BK282 BK287 HB;have BK282:=n0_;have BK287:=n1_;have HB:=n2_;clear n0_ n1_ n2_ hb))
          go_ret
          exact ⟨by first | rfl | (simp [errW_none,errW_some] <;> rfl) | (simp [*, errW_none,errW_some] <;> rfl),by exact bZ_ HB⟩
        ·rw [if_neg c20] at H
         exact absurd H (by simp)
       ·rw [if_neg c19] at H
        exact absurd H (by simp)
      ·rw [if_neg c18] at H
       have c18b0 : decide (x22_2 < (l0_3.length : Int)) = false:=decide_eq_false c18
       clear c18
       replace H:=oB_ H
       obtain ⟨t289,A310,H⟩:=H
       replace H : (some t289) = some r:=H
       have A31:=aM_ A310
       clear A310
       obtain rfl:=Option.some.inj H
       have hcz32_0 : wr.cell? ⟨gb282,0,none⟩ = some (.string a0_0):=(kC_ BK282.out 0).trans rfl
       have hcz32_1 : wr.cell? ⟨gb282,1,none⟩ = some (.slice A0_1 l0_1.length c0_1):=(kC_ BK282.out 1).trans rfl
       have hcz32_2 : wr.cell? ⟨gb282,2,none⟩ = some (.slice A0_2 l0_2.length c0_2):=(kC_ BK282.out 2).trans rfl
       have hcz32_3 : wr.cell? ⟨gb282,3,none⟩ = some (.slice A0_3 l0_3.length c0_3):=(kC_ BK282.out 3).trans rfl
       have hfz32_0:=kF_ BK282.out 0
       have hfz32_1:=kF_ BK282.out 1
       have hfz32_2:=kF_ BK282.out 2
       have hfz32_3:=kF_ BK282.out 3
       go_wp2_with (first | ((with_reducible refine gate_callee (f:=106) rfl ?_);refine goesL_ (some 33) rfl rfl Tryd.func106 (by kernel_rfl) rfl #[.string a0_0] rfl (by (try simp only [mA_,mC_,mN_]);first | done | rfl | (simp only [lD_,lT_];rfl)) ?_;(with_reducible refine (impl_isFree.calls k2 a0_0 t289 _ A31.out).mono ?_);rintro e w33 ⟨rfl,hb⟩;refine ⟨_,rfl,?_⟩;have n0_:=aM_ (blk_below (g:=gb282) (o:=.cells #[.string a0_0,.slice A0_1 l0_1.length c0_1,.slice A0_2 l0_2.length c0_2,.slice A0_3 l0_3.length c0_3] 35 (0,0)) (by exact kZ_ BK282) hb);have n1_:=aM_ (bT_ (by exact bZ_ HB) hb);clear BK282 HB;have BK282:=n0_;have HB:=n1_;clear n0_ n1_ hb))
       go_ret
       exact ⟨by first | rfl | (simp [errW_none,errW_some] <;> rfl) | (simp [*, errW_none,errW_some] <;> rfl),by exact bZ_ HB⟩
end Go.Proofs.YtipehkeabnfngaaDoor.PFnExactDefsText
