import Derived.Test.YtipehkeabnfngaaDoorZDTPFnExactDefTextx0
namespace Go.Proofs.YtipehkeabnfngaaDoor.PFnExactDefText
open Go.RowKit Go.Proofs.YtipehkeabnfngaaDoorW.PrintWords Go.Proofs.YtipehkeabnfngaaDoorW.PrintLast Go.Proofs.YtipehkeabnfngaaDoorW.PrintMore Go.Proofs.YtipehkeabnfngaaDoor.Xtra
attribute [local go_sem] max2_int min2_int max_two min_two max_three min_three max_four min_four str_leq str_gtr str_geq setCell_drewN cell_set2 cell_set3   -- for this text's walks alone
set_option linter.unusedVariables false
set_option linter.unusedSimpArgs false
def spec_l1In.f (a0 : Int) (a1 : Int) (a2 : Int) : Option (Bool):=if a0 ≥ a1 then (some (decide (a0 ≤ a2))) else (some false)
set_option maxHeartbeats 8000000 in
set_option maxRecDepth 100000 in
theorem spec_l1In.calls (a0 : Int) (a1 : Int) (a2 : Int) (r : Bool) (w : World) (h : spec_l1In.f a0 a1 a2 = some r) :
  Calls Tryd.prog 101 #[.int .i64 a0,.int .i64 a1,.int .i64 a2] w fun e w'=>e = .returned (.bool r) ∧ Drawn0 w w':=by
 have H : (if a0 ≥ a1 then (some (decide (a0 ≤ a2))) else (some false)) = some r:=h
 clear h
 by_cases c4 : a0 ≥ a1
 ·rw [if_pos c4] at H
  have c4b0 : decide (a1 ≤ a0) = true:=decide_eq_true c4
  clear c4
  obtain rfl:=Option.some.inj H
  go_enter Tryd.func101,Tryd.ntmps101
  go_wp2
  go_ret
  exact ⟨by first | rfl | (simp;done) | (simp [*];done),by repeat (first | exact Drawn0.refl _ | apply Drawn0.step)⟩
 ·rw [if_neg c4] at H
  have c4b0 : decide (a1 ≤ a0) = false:=decide_eq_false c4
  clear c4
  obtain rfl:=Option.some.inj H
  go_enter Tryd.func101,Tryd.ntmps101
  go_wp2
  go_ret
  exact ⟨by first | rfl | (simp;done) | (simp [*];done),by repeat (first | exact Drawn0.refl _ | apply Drawn0.step)⟩
def spec_l8Small.f (a0 : Int) : Option (Bool):=(spec_l1In.f (wrap64 (a0)) 97 122).bind fun t183=>(some t183)
set_option maxHeartbeats 8000000 in
set_option maxRecDepth 100000 in
theorem spec_l8Small.calls (a0 : Int) (r : Bool) (w : World) (h : spec_l8Small.f a0 = some r) :
  Calls Tryd.prog 125 #[.int .u8 a0] w fun e w'=>e = .returned (.bool r) ∧ Drawn0 w w':=by
 have H : ((spec_l1In.f (wrap64 (a0)) 97 122).bind fun t183=>(some t183)) = some r:=h
 clear h
 replace H:=oB_ H
 obtain ⟨t183,A20,H⟩:=H
 replace H : (some t183) = some r:=H
 have A2:=aM_ A20
 clear A20
 obtain rfl:=Option.some.inj H
 go_enter Tryd.func125,Tryd.ntmps125
 go_wp2_with (first | ((with_reducible refine gate_callee (f:=101) rfl ?_);refine goesL_ (some 5) rfl rfl Tryd.func101 (by kernel_rfl) rfl #[.int .i64 (wrap64 (a0)),.int .i64 97,.int .i64 122] rfl (by (try simp only [mA_,mC_,mN_]);first | done | rfl | (simp only [lD_,lT_];rfl)) ?_;(with_reducible refine (spec_l1In.calls (wrap64 (a0)) 97 122 t183 _ A2.out).mono ?_);rintro e w' ⟨rfl,⟨nd,rfl⟩⟩;refine ⟨_,rfl,?_⟩))
 go_ret
 exact ⟨by first | rfl | (simp;done) | (simp [*];done),by repeat (first | exact Drawn0.refl _ | apply Drawn0.step)⟩
def spec_l2Digit.f (a0 : Int) : Option (Bool):=(spec_l1In.f (wrap64 (a0)) 48 57).bind fun t184=>(some t184)
set_option maxHeartbeats 8000000 in
set_option maxRecDepth 100000 in
theorem spec_l2Digit.calls (a0 : Int) (r : Bool) (w : World) (h : spec_l2Digit.f a0 = some r) :
  Calls Tryd.prog 126 #[.int .u8 a0] w fun e w'=>e = .returned (.bool r) ∧ Drawn0 w w':=by
 have H : ((spec_l1In.f (wrap64 (a0)) 48 57).bind fun t184=>(some t184)) = some r:=h
 clear h
 replace H:=oB_ H
 obtain ⟨t184,A20,H⟩:=H
 replace H : (some t184) = some r:=H
 have A2:=aM_ A20
 clear A20
 obtain rfl:=Option.some.inj H
 go_enter Tryd.func126,Tryd.ntmps126
 go_wp2_with (first | ((with_reducible refine gate_callee (f:=101) rfl ?_);refine goesL_ (some 5) rfl rfl Tryd.func101 (by kernel_rfl) rfl #[.int .i64 (wrap64 (a0)),.int .i64 48,.int .i64 57] rfl (by (try simp only [mA_,mC_,mN_]);first | done | rfl | (simp only [lD_,lT_];rfl)) ?_;(with_reducible refine (spec_l1In.calls (wrap64 (a0)) 48 57 t184 _ A2.out).mono ?_);rintro e w' ⟨rfl,⟨nd,rfl⟩⟩;refine ⟨_,rfl,?_⟩))
 go_ret
 exact ⟨by first | rfl | (simp;done) | (simp [*];done),by repeat (first | exact Drawn0.refl _ | apply Drawn0.step)⟩
def spec_l8Name.l0 : Nat → ByteArray → Int → Option (Bool)
 | 0,_,_=>none
 | k + 1,x0,x3=>if x3 < (x0.size : Int) then (if 0 ≤ x3 then ((spec_l8Small.f (bt x0 x3)).bind fun t186=>(if t186 = true then (spec_l8Name.l0 k x0 (wrap64 (x3 + 1))) else (if x3 = 0 then (some false) else ((spec_l2Digit.f (bt x0 x3)).bind fun t187=>(if t187 = true then (spec_l8Name.l0 k x0 (wrap64 (x3 + 1))) else (some false)))))) else (none)) else ((spec_l1In.f (x0.size : Int) 1 8).bind fun t185=>(some t185))
def spec_l8Name.f (k : Nat) (a0 : ByteArray) : Option (Bool):=spec_l8Name.l0 k a0 0
theorem spec_l8Name.mono_l : ∀ k,(∀ y0 y1,LeO (spec_l8Name.l0 k y0 y1) (spec_l8Name.l0 (k + 1) y0 y1))
 | 0=>fun _ _ r h=>by simp [spec_l8Name.l0] at h
 | k + 1=>by
  have ih0:=spec_l8Name.mono_l k
  ·intro y0 y1
   unfold spec_l8Name.l0
   repeat' first
   | (with_reducible exact ih0 _ _)
   | (with_reducible exact LeO.refl _)
   | (with_reducible exact LeO.none _)
   | (with_reducible refine LeO.ite ?_ ?_)
   | (with_reducible refine LeO.bind ?_ (fun _=>?_))
   | exact ih0 _ _
   | exact LeO.none _
   | refine LeO.ite ?_ ?_
   | refine LeO.bind ?_ (fun _=>?_)
theorem spec_l8Name.mono : ∀ a0 k,LeO (spec_l8Name.f k a0) (spec_l8Name.f (k + 1) a0):=by
 intro a0 k
 have ih0:=spec_l8Name.mono_l k
 unfold spec_l8Name.f
 repeat' first
   | (with_reducible exact ih0 _ _)
   | (with_reducible exact LeO.refl _)
   | (with_reducible exact LeO.none _)
   | (with_reducible refine LeO.ite ?_ ?_)
   | (with_reducible refine LeO.bind ?_ (fun _=>?_))
   | exact ih0 _ _
   | exact LeO.none _
   | refine LeO.ite ?_ ?_
   | refine LeO.bind ?_ (fun _=>?_)
set_option maxHeartbeats 8000000 in
set_option maxRecDepth 100000 in
theorem spec_l8Name.calls (k : Nat) (a0 : ByteArray) (r : Bool) (w : World) (h : spec_l8Name.f k a0 = some r) :
  Calls Tryd.prog 137 #[.string a0] w fun e w'=>e = .returned (.bool r) ∧ Drawn0 w w':=by
 have H : (spec_l8Name.l0 k a0 0) = some r:=h
 clear h
 have H':=aM_ H
 clear H
 go_enter Tryd.func137,Tryd.ntmps137
 go_wp2
 (try simp only [Act.put,sI_,sS_,sZ_])
 go_loopg [3] k (fun kq v3 w'=>∃ (x3_1 : Int),v3 = .int .i64 x3_1 ∧ Aside0 (spec_l8Name.l0 kq a0 x3_1 = some r) ∧ Aside0 (kq ≤ k) ∧ Drawn0 w w')
 case atStart=>exact ⟨(0),(by first | rfl | (simp;done) | (simp [*];done)),H', ⟨Nat.le_refl _⟩,by repeat (first | exact Drawn0.refl _ | apply Drawn0.step)⟩
 case round =>
  clear H'
  try clear c1
  obtain ⟨x3_1,rfl,HA,HK1,⟨m1,rfl⟩⟩:=hrel
  cases gk with
  | zero=>exact absurd HA.out (by simp [spec_l8Name.l0])
  | succ k1 =>
   have H:=HA.out
   clear HA
   simp only [spec_l8Name.l0] at H
   by_cases c2 : x3_1 < (a0.size : Int)
   ·rw [if_pos c2] at H
    have c2b0 : decide (x3_1 < (a0.size : Int)) = true:=decide_eq_true c2
    clear c2
    by_cases c3 : 0 ≤ x3_1
    ·rw [if_pos c3] at H
     have c3b0 : decide (0 ≤ x3_1) = true:=decide_eq_true c3
     clear c3
     replace H:=oB_ H
     obtain ⟨t186,A50,H⟩:=H
     replace H : (if t186 = true then (spec_l8Name.l0 k1 a0 (wrap64 (x3_1 + 1))) else (if x3_1 = 0 then (some false) else ((spec_l2Digit.f (bt a0 x3_1)).bind fun t187=>(if t187 = true then (spec_l8Name.l0 k1 a0 (wrap64 (x3_1 + 1))) else (some false))))) = some r:=H
     have A5:=aM_ A50
     clear A50
     by_cases c6 : t186 = true
     ·subst c6
      have H1 : (spec_l8Name.l0 k1 a0 (wrap64 (x3_1 + 1))) = some r:=by rw [if_pos rfl] at H;exact H
      clear H
      have H:=H1
      clear H1
      have H':=aM_ H
      clear H
      have p4 : 0 ≤ (x3_1 : Int):=oT_ (by first | (with_reducible assumption) | assumption)
      have q4 : x3_1 < (a0.size : Int):=oT_ (by first | (with_reducible assumption) | assumption)
      have hx4:=bt_at a0 x3_1
      replace p4:=eq_true p4
      replace q4:=eq_true q4
      go_wp2_with (first | ((with_reducible refine gate_callee (f:=125) rfl ?_);refine goesL_ (some 13) rfl rfl Tryd.func125 (by kernel_rfl) rfl #[.int .u8 (bt a0 x3_1)] rfl (by (try simp only [mA_,mC_,mN_]);first | done | rfl | (simp only [lD_,lT_];rfl)) ?_;(with_reducible refine (spec_l8Small.calls (bt a0 x3_1) true _ A5.out).mono ?_);rintro e w' ⟨rfl,⟨nd,rfl⟩⟩;refine ⟨_,rfl,?_⟩))
      go_roundg k1
      case measure=>have:=HK1.out;omega
      case rel=>exact ⟨(wrap64 (x3_1 + 1)),(by first | rfl | (simp;done) | (simp [*];done)),H', ⟨by have:=HK1.out;omega⟩,by repeat (first | exact Drawn0.refl _ | apply Drawn0.step)⟩
     ·replace c6:=Bool.eq_false_iff.mpr c6
      subst c6
      have H1 : (if x3_1 = 0 then (some false) else ((spec_l2Digit.f (bt a0 x3_1)).bind fun t187=>(if t187 = true then (spec_l8Name.l0 k1 a0 (wrap64 (x3_1 + 1))) else (some false)))) = some r:=by rw [if_neg (show ¬ (false = true) by decide)] at H;exact H
      clear H
      have H:=H1
      clear H1
      by_cases c7 : x3_1 = 0
      ·rw [if_pos c7] at H
       have c7b0 : (x3_1 == 0) = true:=beq_iff_eq.mpr c7
       have c7b1 : (x3_1 != 0) = false:=bne_eq_false_iff_eq.mpr c7
       clear c7
       obtain rfl:=Option.some.inj H
       have p4 : 0 ≤ (x3_1 : Int):=oT_ (by first | (with_reducible assumption) | assumption)
       have q4 : x3_1 < (a0.size : Int):=oT_ (by first | (with_reducible assumption) | assumption)
       have hx4:=bt_at a0 x3_1
       replace p4:=eq_true p4
       replace q4:=eq_true q4
       go_wp2_with (first | ((with_reducible refine gate_callee (f:=125) rfl ?_);refine goesL_ (some 13) rfl rfl Tryd.func125 (by kernel_rfl) rfl #[.int .u8 (bt a0 x3_1)] rfl (by (try simp only [mA_,mC_,mN_]);first | done | rfl | (simp only [lD_,lT_];rfl)) ?_;(with_reducible refine (spec_l8Small.calls (bt a0 x3_1) false _ A5.out).mono ?_);rintro e w' ⟨rfl,⟨nd,rfl⟩⟩;refine ⟨_,rfl,?_⟩))
       go_ret
       exact ⟨by first | rfl | (simp;done) | (simp [*];done),by repeat (first | exact Drawn0.refl _ | apply Drawn0.step)⟩
      ·rw [if_neg c7] at H
       have c7b0 : (x3_1 == 0) = false:=beq_eq_false_iff_ne.mpr c7
       have c7b1 : (x3_1 != 0) = true:=bne_iff_ne.mpr c7
       replace H:=oB_ H
       obtain ⟨t187,A90,H⟩:=H
       replace H : (if t187 = true then (spec_l8Name.l0 k1 a0 (wrap64 (x3_1 + 1))) else (some false)) = some r:=H
       have A9:=aM_ A90
       clear A90
       by_cases c10 : t187 = true
       ·subst c10
        have H1 : (spec_l8Name.l0 k1 a0 (wrap64 (x3_1 + 1))) = some r:=by rw [if_pos rfl] at H;exact H
        clear H
        have H:=H1
        clear H1
        have H':=aM_ H
        clear H
        have p4 : 0 ≤ (x3_1 : Int):=oT_ (by first | (with_reducible assumption) | assumption)
        have q4 : x3_1 < (a0.size : Int):=oT_ (by first | (with_reducible assumption) | assumption)
        have hx4:=bt_at a0 x3_1
        replace p4:=eq_true p4
        replace q4:=eq_true q4
        go_wp2_with (first | ((with_reducible refine gate_callee (f:=125) rfl ?_);refine goesL_ (some 13) rfl rfl Tryd.func125 (by kernel_rfl) rfl #[.int .u8 (bt a0 x3_1)] rfl (by (try simp only [mA_,mC_,mN_]);first | done | rfl | (simp only [lD_,lT_];rfl)) ?_;(with_reducible refine (spec_l8Small.calls (bt a0 x3_1) false _ A5.out).mono ?_);rintro e w' ⟨rfl,⟨nd,rfl⟩⟩;refine ⟨_,rfl,?_⟩;have p8 : 0 ≤ (x3_1 : Int):=oT_ (by first | (with_reducible assumption) | assumption);have q8 : x3_1 < (a0.size : Int):=oT_ (by first | (with_reducible assumption) | assumption);have hx8:=bt_at a0 x3_1;replace p8:=eq_true p8;replace q8:=eq_true q8) | (go_at_call 126;(with_reducible refine (spec_l2Digit.calls (bt a0 x3_1) true _ A9.out).mono ?_);rintro e w' ⟨rfl,⟨nd,rfl⟩⟩))
        go_roundg k1
        case measure=>have:=HK1.out;omega
        case rel=>exact ⟨(wrap64 (x3_1 + 1)),(by first | rfl | (simp;done) | (simp [*];done)),H', ⟨by have:=HK1.out;omega⟩,by repeat (first | exact Drawn0.refl _ | apply Drawn0.step)⟩
       ·replace c10:=Bool.eq_false_iff.mpr c10
        subst c10
        have H1 : (some false) = some r:=by rw [if_neg (show ¬ (false = true) by decide)] at H;exact H
        clear H
        have H:=H1
        clear H1
        obtain rfl:=Option.some.inj H
        have p4 : 0 ≤ (x3_1 : Int):=oT_ (by first | (with_reducible assumption) | assumption)
        have q4 : x3_1 < (a0.size : Int):=oT_ (by first | (with_reducible assumption) | assumption)
        have hx4:=bt_at a0 x3_1
        replace p4:=eq_true p4
        replace q4:=eq_true q4
        go_wp2_with (first | ((with_reducible refine gate_callee (f:=125) rfl ?_);refine goesL_ (some 13) rfl rfl Tryd.func125 (by kernel_rfl) rfl #[.int .u8 (bt a0 x3_1)] rfl (by (try simp only [mA_,mC_,mN_]);first | done | rfl | (simp only [lD_,lT_];rfl)) ?_;(with_reducible refine (spec_l8Small.calls (bt a0 x3_1) false _ A5.out).mono ?_);rintro e w' ⟨rfl,⟨nd,rfl⟩⟩;refine ⟨_,rfl,?_⟩;have p8 : 0 ≤ (x3_1 : Int):=oT_ (by first | (with_reducible assumption) | assumption);have q8 : x3_1 < (a0.size : Int):=oT_ (by first | (with_reducible assumption) | assumption);have hx8:=bt_at a0 x3_1;replace p8:=eq_true p8;replace q8:=eq_true q8) | (go_at_call 126;(with_reducible refine (spec_l2Digit.calls (bt a0 x3_1) false _ A9.out).mono ?_);rintro e w' ⟨rfl,⟨nd,rfl⟩⟩))
        go_ret
        exact ⟨by first | rfl | (simp;done) | (simp [*];done),by repeat (first | exact Drawn0.refl _ | apply Drawn0.step)⟩
    ·rw [if_neg c3] at H
     exact absurd H (by simp)
   ·rw [if_neg c2] at H
    have c2b0 : decide (x3_1 < (a0.size : Int)) = false:=decide_eq_false c2
    clear c2
    replace H:=oB_ H
    obtain ⟨t185,A110,H⟩:=H
    replace H : (some t185) = some r:=H
    have A11:=aM_ A110
    clear A110
    obtain rfl:=Option.some.inj H
    go_wp2_with (first | ((with_reducible refine gate_callee (f:=101) rfl ?_);refine goesL_ (some 28) rfl rfl Tryd.func101 (by kernel_rfl) rfl #[.int .i64 (a0.size : Int),.int .i64 1,.int .i64 8] rfl (by (try simp only [mA_,mC_,mN_]);first | done | rfl | (simp only [lD_,lT_];rfl)) ?_;(with_reducible refine (spec_l1In.calls (a0.size : Int) 1 8 t185 _ A11.out).mono ?_);rintro e w' ⟨rfl,⟨nd,rfl⟩⟩;refine ⟨_,rfl,?_⟩))
    go_ret
    exact ⟨by first | rfl | (simp;done) | (simp [*];done),by repeat (first | exact Drawn0.refl _ | apply Drawn0.step)⟩
def spec_l9Has.l0 : Nat → List ByteArray → ByteArray → Int → Option (Bool)
 | 0,_,_,_=>none
 | k + 1,x0,x1,x5=>if x5 < (x0.length : Int) then (if 0 ≤ x5 then (if (rdOf ByteArray.empty x0 x5).toList = x1.toList then (some true) else (spec_l9Has.l0 k x0 x1 (wrap64 (x5 + 1)))) else (none)) else (some false)
def spec_l9Has.f (k : Nat) (l0 : List ByteArray) (a1 : ByteArray) : Option (Bool):=spec_l9Has.l0 k l0 a1 0
theorem spec_l9Has.mono_l : ∀ k,(∀ y0 y1 y2,LeO (spec_l9Has.l0 k y0 y1 y2) (spec_l9Has.l0 (k + 1) y0 y1 y2))
 | 0=>fun _ _ _ r h=>by simp [spec_l9Has.l0] at h
 | k + 1=>by
  have ih0:=spec_l9Has.mono_l k
  ·intro y0 y1 y2
   unfold spec_l9Has.l0
   repeat' first
   | (with_reducible exact ih0 _ _ _)
   | (with_reducible exact LeO.refl _)
   | (with_reducible exact LeO.none _)
   | (with_reducible refine LeO.ite ?_ ?_)
   | (with_reducible refine LeO.bind ?_ (fun _=>?_))
   | exact ih0 _ _ _
   | exact LeO.none _
   | refine LeO.ite ?_ ?_
   | refine LeO.bind ?_ (fun _=>?_)
theorem spec_l9Has.mono : ∀ a0 a1 k,LeO (spec_l9Has.f k a0 a1) (spec_l9Has.f (k + 1) a0 a1):=by
 intro a0 a1 k
 have ih0:=spec_l9Has.mono_l k
 unfold spec_l9Has.f
 repeat' first
   | (with_reducible exact ih0 _ _ _)
   | (with_reducible exact LeO.refl _)
   | (with_reducible exact LeO.none _)
   | (with_reducible refine LeO.ite ?_ ?_)
   | (with_reducible refine LeO.bind ?_ (fun _=>?_))
   | exact ih0 _ _ _
   | exact LeO.none _
   | refine LeO.ite ?_ ?_
   | refine LeO.bind ?_ (fun _=>?_)
set_option maxHeartbeats 8000000 in
set_option maxRecDepth 100000 in
theorem spec_l9Has.calls (k : Nat) (A0 : Option Addr) (c0 : Nat) (l0 : List ByteArray) (a1 : ByteArray) (r : Bool) (w : World) (hr0 : Kd.C Kd.string w A0 l0.length l0) (hc0 : l0.length ≤ c0) (h : spec_l9Has.f k l0 a1 = some r) :
  Calls Tryd.prog 138 #[.slice A0 l0.length c0,.string a1] w fun e w'=>e = .returned (.bool r) ∧ Drawn0 w w':=by
 have HR0:=aM_ hr0
 have HC0:=aM_ hc0
 clear hr0 hc0
 have H : (spec_l9Has.l0 k l0 a1 0) = some r:=h
 clear h
 have H':=aM_ H
 clear H
 go_enter Tryd.func138,Tryd.ntmps138
 go_wp2
 (try simp only [Act.put,sI_,sS_,sZ_])
 go_loopg [5] k (fun kq v5 w'=>∃ (x5_1 : Int),v5 = .int .i64 x5_1 ∧ Aside0 (spec_l9Has.l0 kq l0 a1 x5_1 = some r) ∧ Aside0 (kq ≤ k) ∧ Drawn0 w w')
 case atStart=>exact ⟨(0),(by first | rfl | (simp;done) | (simp [*];done)),H', ⟨Nat.le_refl _⟩,by repeat (first | exact Drawn0.refl _ | apply Drawn0.step)⟩
 case round =>
  clear H'
  try clear c1
  try clear p2
  obtain ⟨x5_1,rfl,HA,HK1,⟨m1,rfl⟩⟩:=hrel
  cases gk with
  | zero=>exact absurd HA.out (by simp [spec_l9Has.l0])
  | succ k1 =>
   have H:=HA.out
   clear HA
   simp only [spec_l9Has.l0] at H
   by_cases c3 : x5_1 < (l0.length : Int)
   ·rw [if_pos c3] at H
    have c3b0 : decide (x5_1 < (l0.length : Int)) = true:=decide_eq_true c3
    clear c3
    by_cases c4 : 0 ≤ x5_1
    ·rw [if_pos c4] at H
     have c4b0 : decide (0 ≤ x5_1) = true:=decide_eq_true c4
     clear c4
     by_cases c5 : (rdOf ByteArray.empty l0 x5_1).toList = a1.toList
     ·rw [if_pos c5] at H
      have c5b0 : ((rdOf ByteArray.empty l0 x5_1).toList == a1.toList) = true:=beq_iff_eq.mpr c5
      have c5b1 : ((rdOf ByteArray.empty l0 x5_1).toList != a1.toList) = false:=bne_eq_false_iff_eq.mpr c5
      clear c5
      obtain rfl:=Option.some.inj H
      have p188 : 0 ≤ (x5_1 : Int):=oT_ (by first | (with_reducible assumption) | assumption)
      have q188 : x5_1 < (l0.length : Int):=oT_ (by first | (with_reducible assumption) | assumption)
      obtain ⟨ad188,e188,hx188_0⟩:=Kd.at_string HR0.out x5_1 p188 q188
      cases e188
      replace p188:=eq_true p188
      replace q188:=eq_true q188
      go_wp2
      go_ret
      exact ⟨by first | rfl | (simp;done) | (simp [*];done),by repeat (first | exact Drawn0.refl _ | apply Drawn0.step)⟩
     ·rw [if_neg c5] at H
      have c5b0 : ((rdOf ByteArray.empty l0 x5_1).toList == a1.toList) = false:=beq_eq_false_iff_ne.mpr c5
      have c5b1 : ((rdOf ByteArray.empty l0 x5_1).toList != a1.toList) = true:=bne_iff_ne.mpr c5
      have H':=aM_ H
      clear H
      have p188 : 0 ≤ (x5_1 : Int):=oT_ (by first | (with_reducible assumption) | assumption)
      have q188 : x5_1 < (l0.length : Int):=oT_ (by first | (with_reducible assumption) | assumption)
      obtain ⟨ad188,e188,hx188_0⟩:=Kd.at_string HR0.out x5_1 p188 q188
      cases e188
      replace p188:=eq_true p188
      replace q188:=eq_true q188
      go_wp2
      go_roundg k1
      case measure=>have:=HK1.out;omega
      case rel=>exact ⟨(wrap64 (x5_1 + 1)),(by first | rfl | (simp;done) | (simp [*];done)),H', ⟨by have:=HK1.out;omega⟩,by repeat (first | exact Drawn0.refl _ | apply Drawn0.step)⟩
    ·rw [if_neg c4] at H
     exact absurd H (by simp)
   ·rw [if_neg c3] at H
    have c3b0 : decide (x5_1 < (l0.length : Int)) = false:=decide_eq_false c3
    clear c3
    obtain rfl:=Option.some.inj H
    go_wp2
    go_ret
    exact ⟨by first | rfl | (simp;done) | (simp [*];done),by repeat (first | exact Drawn0.refl _ | apply Drawn0.step)⟩
def spec_l9Word.f (k : Nat) (a0 : ByteArray) : Option (Bool):=(spec_l8Name.f k a0).bind fun t189=>(if t189 = true then ((spec_l9Has.f k (([(⟨#[116,97,98,108,101]⟩ : ByteArray),(⟨#[112,114,105,109,97,114,121]⟩ : ByteArray),(⟨#[117,110,105,113,117,101]⟩ : ByteArray),(⟨#[105,110,100,101,120]⟩ : ByteArray),(⟨#[110,117,108,108]⟩ : ByteArray),(⟨#[100,101,115,99]⟩ : ByteArray),(⟨#[105,110,116]⟩ : ByteArray),(⟨#[110,117,109]⟩ : ByteArray),(⟨#[116,101,120,116]⟩ : ByteArray),(⟨#[98,111,111,108]⟩ : ByteArray)] : List ByteArray)) a0).bind fun t193=>(some (!t193))) else (some false))
theorem spec_l9Word.mono : ∀ a0 k,LeO (spec_l9Word.f k a0) (spec_l9Word.f (k + 1) a0):=by
 intro a0 k
 unfold spec_l9Word.f
 repeat' first
   | (with_reducible exact spec_l8Name.mono _ _)
   | (with_reducible exact spec_l9Has.mono _ _ _)
   | (with_reducible exact LeO.refl _)
   | (with_reducible exact LeO.none _)
   | (with_reducible refine LeO.ite ?_ ?_)
   | (with_reducible refine LeO.bind ?_ (fun _=>?_))
   | exact spec_l8Name.mono _ _
   | exact spec_l9Has.mono _ _ _
   | exact LeO.none _
   | refine LeO.ite ?_ ?_
   | refine LeO.bind ?_ (fun _=>?_)
set_option maxHeartbeats 8000000 in
set_option maxRecDepth 100000 in
theorem spec_l9Word.calls (k : Nat) (a0 : ByteArray) (r : Bool) (w : World) (h : spec_l9Word.f k a0 = some r) :
  Calls Tryd.prog 107 #[.string a0] w fun e w'=>e = .returned (.bool r) ∧ Below w.heap.size w w':=by
 have HB:=aM_ (Below.refl w.heap.size w)
 have H : ((spec_l8Name.f k a0).bind fun t189=>(if t189 = true then ((spec_l9Has.f k (([(⟨#[116,97,98,108,101]⟩ : ByteArray),(⟨#[112,114,105,109,97,114,121]⟩ : ByteArray),(⟨#[117,110,105,113,117,101]⟩ : ByteArray),(⟨#[105,110,100,101,120]⟩ : ByteArray),(⟨#[110,117,108,108]⟩ : ByteArray),(⟨#[100,101,115,99]⟩ : ByteArray),(⟨#[105,110,116]⟩ : ByteArray),(⟨#[110,117,109]⟩ : ByteArray),(⟨#[116,101,120,116]⟩ : ByteArray),(⟨#[98,111,111,108]⟩ : ByteArray)] : List ByteArray)) a0).bind fun t193=>(some (!t193))) else (some false))) = some r:=h
 clear h
 replace H:=oB_ H
 obtain ⟨t189,A20,H⟩:=H
 replace H : (if t189 = true then ((spec_l9Has.f k (([(⟨#[116,97,98,108,101]⟩ : ByteArray),(⟨#[112,114,105,109,97,114,121]⟩ : ByteArray),(⟨#[117,110,105,113,117,101]⟩ : ByteArray),(⟨#[105,110,100,101,120]⟩ : ByteArray),(⟨#[110,117,108,108]⟩ : ByteArray),(⟨#[100,101,115,99]⟩ : ByteArray),(⟨#[105,110,116]⟩ : ByteArray),(⟨#[110,117,109]⟩ : ByteArray),(⟨#[116,101,120,116]⟩ : ByteArray),(⟨#[98,111,111,108]⟩ : ByteArray)] : List ByteArray)) a0).bind fun t193=>(some (!t193))) else (some false)) = some r:=H
 have A2:=aM_ A20
 clear A20
 by_cases c3 : t189 = true
 ·subst c3
  have H1 : ((spec_l9Has.f k (([(⟨#[116,97,98,108,101]⟩ : ByteArray),(⟨#[112,114,105,109,97,114,121]⟩ : ByteArray),(⟨#[117,110,105,113,117,101]⟩ : ByteArray),(⟨#[105,110,100,101,120]⟩ : ByteArray),(⟨#[110,117,108,108]⟩ : ByteArray),(⟨#[100,101,115,99]⟩ : ByteArray),(⟨#[105,110,116]⟩ : ByteArray),(⟨#[110,117,109]⟩ : ByteArray),(⟨#[116,101,120,116]⟩ : ByteArray),(⟨#[98,111,111,108]⟩ : ByteArray)] : List ByteArray)) a0).bind fun t193=>(some (!t193))) = some r:=by rw [if_pos rfl] at H;exact H
  clear H
  have H:=H1
  clear H1
  obtain ⟨y190,hy190⟩ : ∃ y_ : List ByteArray,y_ = (([(⟨#[116,97,98,108,101]⟩ : ByteArray),(⟨#[112,114,105,109,97,114,121]⟩ : ByteArray),(⟨#[117,110,105,113,117,101]⟩ : ByteArray),(⟨#[105,110,100,101,120]⟩ : ByteArray),(⟨#[110,117,108,108]⟩ : ByteArray),(⟨#[100,101,115,99]⟩ : ByteArray),(⟨#[105,110,116]⟩ : ByteArray),(⟨#[110,117,109]⟩ : ByteArray),(⟨#[116,101,120,116]⟩ : ByteArray),(⟨#[98,111,111,108]⟩ : ByteArray)] : List ByteArray)):=⟨_,rfl⟩
  replace H : ((spec_l9Has.f k y190 a0).bind fun t193=>(some (!t193))) = some r:=by first | (rw [hy190];with_reducible exact H) | (have H2_:=(Option.bind_some _ _).symm.trans H;rw [hy190];with_reducible exact H2_) | (have H2_:=(Option.bind_some _ _).symm.trans H;with_reducible exact H2_) | with_reducible exact H | (rw [hy190];exact H) | exact H
  have Ny190:=aM_ hy190
  clear hy190
  replace H:=oB_ H
  obtain ⟨t193,A40,H⟩:=H
  replace H : (some (!t193)) = some r:=H
  have A4:=aM_ A40
  clear A40
  obtain rfl:=Option.some.inj H
  go_enter Tryd.func107,Tryd.ntmps107
  go_wp2_with (first | ((with_reducible refine gate_callee (f:=137) rfl ?_);refine goesL_ (some 4) rfl rfl Tryd.func137 (by kernel_rfl) rfl #[.string a0] rfl (by (try simp only [mA_,mC_,mN_]);first | done | rfl | (simp only [lD_,lT_];rfl)) ?_;(with_reducible refine (spec_l8Name.calls k a0 true _ A2.out).mono ?_);rintro e w' ⟨rfl,⟨nd,rfl⟩⟩;refine ⟨_,rfl,?_⟩) | ((with_reducible refine gate_dst (N:=6) rfl ?_);(try (refine gate_guard (by rfl) ?_;dsimp only));refine Kd.R_lit Kd.string _ 9 ?hg (N:=6) ?hd (xs:=([(⟨#[116,97,98,108,101]⟩ : ByteArray),(⟨#[112,114,105,109,97,114,121]⟩ : ByteArray),(⟨#[117,110,105,113,117,101]⟩ : ByteArray),(⟨#[105,110,100,101,120]⟩ : ByteArray),(⟨#[110,117,108,108]⟩ : ByteArray),(⟨#[100,101,115,99]⟩ : ByteArray),(⟨#[105,110,116]⟩ : ByteArray),(⟨#[110,117,109]⟩ : ByteArray),(⟨#[116,101,120,116]⟩ : ByteArray),(⟨#[98,111,111,108]⟩ : ByteArray)] : List ByteArray)) (inner:=[.string (⟨#[116,97,98,108,101]⟩ : ByteArray),.string (⟨#[112,114,105,109,97,114,121]⟩ : ByteArray),.string (⟨#[117,110,105,113,117,101]⟩ : ByteArray),.string (⟨#[105,110,100,101,120]⟩ : ByteArray),.string (⟨#[110,117,108,108]⟩ : ByteArray),.string (⟨#[100,101,115,99]⟩ : ByteArray),.string (⟨#[105,110,116]⟩ : ByteArray),.string (⟨#[110,117,109]⟩ : ByteArray),.string (⟨#[116,101,120,116]⟩ : ByteArray),.string (⟨#[98,111,111,108]⟩ : ByteArray)]) (ok:=fun _=>True) (okp:=fun _=>True) ?hr ?hp (fun _ hk=>hk) trivial (Below.refl _ _) (Nat.le_refl _) (by simp) ?_;(case hd=>rfl);(case hg=>rfl);(case hr=>first | (go_simp;done) | (go_simp;rfl));(case hp=>exact (Reps.one (show Kd.M Kd.string _ _ _ (⟨#[116,97,98,108,101]⟩ : ByteArray) [.string (⟨#[116,97,98,108,101]⟩ : ByteArray)] from rfl) (Reps.one (show Kd.M Kd.string _ _ _ (⟨#[112,114,105,109,97,114,121]⟩ : ByteArray) [.string (⟨#[112,114,105,109,97,114,121]⟩ : ByteArray)] from rfl) (Reps.one (show Kd.M Kd.string _ _ _ (⟨#[117,110,105,113,117,101]⟩ : ByteArray) [.string (⟨#[117,110,105,113,117,101]⟩ : ByteArray)] from rfl) (Reps.one (show Kd.M Kd.string _ _ _ (⟨#[105,110,100,101,120]⟩ : ByteArray) [.string (⟨#[105,110,100,101,120]⟩ : ByteArray)] from rfl) (Reps.one (show Kd.M Kd.string _ _ _ (⟨#[110,117,108,108]⟩ : ByteArray) [.string (⟨#[110,117,108,108]⟩ : ByteArray)] from rfl) (Reps.one (show Kd.M Kd.string _ _ _ (⟨#[100,101,115,99]⟩ : ByteArray) [.string (⟨#[100,101,115,99]⟩ : ByteArray)] from rfl) (Reps.one (show Kd.M Kd.string _ _ _ (⟨#[105,110,116]⟩ : ByteArray) [.string (⟨#[105,110,116]⟩ : ByteArray)] from rfl) (Reps.one (show Kd.M Kd.string _ _ _ (⟨#[110,117,109]⟩ : ByteArray) [.string (⟨#[110,117,109]⟩ : ByteArray)] from rfl) (Reps.one (show Kd.M Kd.string _ _ _ (⟨#[116,101,120,116]⟩ : ByteArray) [.string (⟨#[116,101,120,116]⟩ : ByteArray)] from rfl) (Reps.one (show Kd.M Kd.string _ _ _ (⟨#[98,111,111,108]⟩ : ByteArray) [.string (⟨#[98,111,111,108]⟩ : ByteArray)] from rfl) (Reps.none _ _))))))))))));intro v191 w5 ho6 hb hg_ hnew_;clear hg_ hnew_;(first | rw [← Ny190.out] at ho6 | (simp only [Int.reduceToNat] at ho6;rw [← Ny190.out] at ho6));have n0_:=aM_ (Kd.R_lower ho6 (bS_ (by exact bZ_ HB)));have n1_:=aM_ (bT_ (by exact bZ_ HB) hb);clear HB;have HO192:=n0_;have HB:=n1_;clear n0_ n1_;clear hb ho6;obtain ⟨Ao7,co7,eo7⟩:=Kd.R_slice HO192.out;subst eo7) | (go_at_call 138;(with_reducible refine (spec_l9Has.calls k _ _ y190 a0 t193 _ ?side1 ?side2 A4.out).mono ?_);(case side1=>repeat (first | exact (Kd.R_reads' HO192.out).2.2 | (with_reducible refine cA_ ?_ _) | (with_reducible refine cN_ ?_ _) | (with_reducible refine cD_ ?_)));(case side2=>exact (Kd.R_reads' HO192.out).2.1);rintro e w' ⟨rfl,⟨nd,rfl⟩⟩))
  go_ret
  exact ⟨by first | rfl | (simp [errW_none,errW_some] <;> rfl) | (simp [*, errW_none,errW_some] <;> rfl),by exact bZ_ HB⟩
 ·replace c3:=Bool.eq_false_iff.mpr c3
  subst c3
  have H1 : (some false) = some r:=by rw [if_neg (show ¬ (false = true) by decide)] at H;exact H
  clear H
  have H:=H1
  clear H1
  obtain rfl:=Option.some.inj H
  go_enter Tryd.func107,Tryd.ntmps107
  go_wp2_with (first | ((with_reducible refine gate_callee (f:=137) rfl ?_);refine goesL_ (some 4) rfl rfl Tryd.func137 (by kernel_rfl) rfl #[.string a0] rfl (by (try simp only [mA_,mC_,mN_]);first | done | rfl | (simp only [lD_,lT_];rfl)) ?_;(with_reducible refine (spec_l8Name.calls k a0 false _ A2.out).mono ?_);rintro e w' ⟨rfl,⟨nd,rfl⟩⟩;refine ⟨_,rfl,?_⟩))
  go_ret
  exact ⟨by first | rfl | (simp [errW_none,errW_some] <;> rfl) | (simp [*, errW_none,errW_some] <;> rfl),by exact bZ_ HB⟩
mutual
def spec_l9Names.l0 : Nat → Int → ByteArray → List (S82) → List (S85) → List (S69) → Option (Bool)
 | 0,_,_,_,_,_=>none
 | k + 1,x3,x195000,x195001,x195002,x195003=>if x3 < (x195001.length : Int) then (if 0 ≤ x3 then ((spec_l9Word.f k ((rd_T82 x195001 x3).f0)).bind fun t196=>(if t196 = true then (spec_l9Names.l0 k (wrap64 (x3 + 1)) x195000 x195001 x195002 x195003) else (some false))) else (none)) else (spec_l9Names.l1 k 0 x195000 x195001 x195002 x195003)
def spec_l9Names.l1 : Nat → Int → ByteArray → List (S82) → List (S85) → List (S69) → Option (Bool)
 | 0,_,_,_,_,_=>none
 | k + 1,x4,x195000,x195001,x195002,x195003=>if x4 < (x195003.length : Int) then (if 0 ≤ x4 then ((spec_l9Word.f k ((rd_T69 x195003 x4).f0)).bind fun t198=>(if t198 = true then (spec_l9Names.l1 k (wrap64 (x4 + 1)) x195000 x195001 x195002 x195003) else (some false))) else (none)) else ((spec_l9Word.f k x195000).bind fun t199=>(some t199))
end
def spec_l9Names.f (k : Nat) (a0_0 : ByteArray) (l0_1 : List (S82)) (l0_2 : List (S85)) (l0_3 : List (S69)) : Option (Bool):=spec_l9Names.l0 k 0 a0_0 l0_1 l0_2 l0_3
theorem spec_l9Names.mono_l : ∀ k,(∀ y0 y1 y2 y3 y4,LeO (spec_l9Names.l0 k y0 y1 y2 y3 y4) (spec_l9Names.l0 (k + 1) y0 y1 y2 y3 y4)) ∧ (∀ y0 y1 y2 y3 y4,LeO (spec_l9Names.l1 k y0 y1 y2 y3 y4) (spec_l9Names.l1 (k + 1) y0 y1 y2 y3 y4))
 | 0=>⟨fun _ _ _ _ _ r h=>by simp [spec_l9Names.l0] at h,fun _ _ _ _ _ r h=>by simp [spec_l9Names.l1] at h⟩
 | k + 1=>by
  obtain ⟨ih0,ih1⟩:=spec_l9Names.mono_l k
  refine ⟨?_,?_⟩
  ·intro y0 y1 y2 y3 y4
   unfold spec_l9Names.l0
   repeat' first
   | (with_reducible exact ih0 _ _ _ _ _)
   | (with_reducible exact ih1 _ _ _ _ _)
   | (with_reducible exact spec_l9Word.mono _ _)
   | (with_reducible exact LeO.refl _)
   | (with_reducible exact LeO.none _)
   | (with_reducible refine LeO.ite ?_ ?_)
   | (with_reducible refine LeO.bind ?_ (fun _=>?_))
   | exact ih0 _ _ _ _ _
   | exact ih1 _ _ _ _ _
   | exact spec_l9Word.mono _ _
   | exact LeO.none _
   | refine LeO.ite ?_ ?_
   | refine LeO.bind ?_ (fun _=>?_)
  ·intro y0 y1 y2 y3 y4
   unfold spec_l9Names.l1
   repeat' first
   | (with_reducible exact ih0 _ _ _ _ _)
   | (with_reducible exact ih1 _ _ _ _ _)
   | (with_reducible exact spec_l9Word.mono _ _)
   | (with_reducible exact LeO.refl _)
   | (with_reducible exact LeO.none _)
   | (with_reducible refine LeO.ite ?_ ?_)
   | (with_reducible refine LeO.bind ?_ (fun _=>?_))
   | exact ih0 _ _ _ _ _
   | exact ih1 _ _ _ _ _
   | exact spec_l9Word.mono _ _
   | exact LeO.none _
   | refine LeO.ite ?_ ?_
   | refine LeO.bind ?_ (fun _=>?_)
theorem spec_l9Names.mono : ∀ a0 a1 a2 a3 k,LeO (spec_l9Names.f k a0 a1 a2 a3) (spec_l9Names.f (k + 1) a0 a1 a2 a3):=by
 intro a0 a1 a2 a3 k
 obtain ⟨ih0,ih1⟩:=spec_l9Names.mono_l k
 unfold spec_l9Names.f
 repeat' first
   | (with_reducible exact ih0 _ _ _ _ _)
   | (with_reducible exact ih1 _ _ _ _ _)
   | (with_reducible exact spec_l9Word.mono _ _)
   | (with_reducible exact LeO.refl _)
   | (with_reducible exact LeO.none _)
   | (with_reducible refine LeO.ite ?_ ?_)
   | (with_reducible refine LeO.bind ?_ (fun _=>?_))
   | exact ih0 _ _ _ _ _
   | exact ih1 _ _ _ _ _
   | exact spec_l9Word.mono _ _
   | exact LeO.none _
   | refine LeO.ite ?_ ?_
   | refine LeO.bind ?_ (fun _=>?_)
set_option maxHeartbeats 8000000 in
set_option maxRecDepth 100000 in
theorem spec_l9Names.calls (k : Nat) (a0_0 : ByteArray) (A0_1 : Option Addr) (c0_1 : Nat) (l0_1 : List (S82)) (A0_2 : Option Addr) (c0_2 : Nat) (l0_2 : List (S85)) (A0_3 : Option Addr) (c0_3 : Nat) (l0_3 : List (S69)) (r : Bool) (w : World) (hr0_1 : Kd.C k82 w A0_1 l0_1.length l0_1) (hc0_1 : l0_1.length ≤ c0_1) (hr0_2 : Kd.C k85 w A0_2 l0_2.length l0_2) (hc0_2 : l0_2.length ≤ c0_2) (hr0_3 : Kd.C k69 w A0_3 l0_3.length l0_3) (hc0_3 : l0_3.length ≤ c0_3) (h : spec_l9Names.f k a0_0 l0_1 l0_2 l0_3 = some r) :
  Calls Tryd.prog 60 #[.agg #[.string a0_0,.slice A0_1 l0_1.length c0_1,.slice A0_2 l0_2.length c0_2,.slice A0_3 l0_3.length c0_3]] w fun e w'=>e = .returned (.bool r) ∧ Below w.heap.size w w':=by
 have hu35:=Tryd.underlying35
 have HR0_1:=aM_ hr0_1
 have HC0_1:=aM_ hc0_1
 clear hr0_1 hc0_1
 have HR0_2:=aM_ hr0_2
 have HC0_2:=aM_ hc0_2
 clear hr0_2 hc0_2
 have HR0_3:=aM_ hr0_3
 have HC0_3:=aM_ hc0_3
 clear hr0_3 hc0_3
 have HB:=aM_ (Below.refl w.heap.size w)
 have H : (spec_l9Names.l0 k 0 a0_0 l0_1 l0_2 l0_3) = some r:=h
 clear h
 have H':=aM_ H
 clear H
 go_enter Tryd.func60,Tryd.ntmps60
 go_wp2_with (first | ((with_reducible refine gate_dst (N:=1) rfl ?_);refine box_event ?hg (N:=1) ?hd (cs:=#[.string a0_0,.slice A0_1 l0_1.length c0_1,.slice A0_2 l0_2.length c0_2,.slice A0_3 l0_3.length c0_3]) (t:=35) ?hr ?_;(case hd=>rfl);(case hg=>rfl);(case hr=>first | (go_simp;done) | (go_simp;rfl));intro gb194 hg w2 hbox hb;have n0_:=aM_ (bT_ (by exact bZ_ HB) hb);have n1_:=aM_ (hbox);have n2_:=aM_ ((by rw [hg];exact (bS_ (by exact bZ_ HB)) : w.heap.size ≤ gb194));have n3_:=aM_ ((by rw [hg];exact (bS_ (by exact bZ_ HB)) : w.heap.size ≤ gb194));clear HB;have HB:=n0_;have BK194:=n1_;have GW194:=n2_;have GE194:=n3_;clear n0_ n1_ n2_ n3_;clear hb hbox hg))
 (try simp only [Act.put,sI_,sS_,sZ_])
 go_loopg [3] k (fun kq v3 w'=>∃ (x3_1 : Int),v3 = .int .i64 x3_1 ∧ Aside0 (spec_l9Names.l0 kq x3_1 a0_0 l0_1 l0_2 l0_3 = some r) ∧ Aside0 (kq ≤ k) ∧ Aside0 (w'.heap[gb194]? = some (.cells #[.string a0_0,(.slice A0_1 l0_1.length c0_1),(.slice A0_2 l0_2.length c0_2),(.slice A0_3 l0_3.length c0_3)] 35 (0,0))) ∧ Aside0 (Below w.heap.size w w'))
 case atStart=>exact ⟨(0),(by first | rfl | (simp;done) | (simp [*];done)),H', ⟨Nat.le_refl _⟩,⟨by exact kZ_ BK194⟩,⟨by exact bZ_ HB⟩⟩
 case round =>
  clear H'
  try clear p2
  obtain ⟨x3_1,rfl,HA,HK1,BK194,HB⟩:=hrel
  cases gk with
  | zero=>exact absurd HA.out (by simp [spec_l9Names.l0])
  | succ k1 =>
   have H:=HA.out
   clear HA
   simp only [spec_l9Names.l0] at H
   by_cases c3 : x3_1 < (l0_1.length : Int)
   ·rw [if_pos c3] at H
    have c3b0 : decide (x3_1 < (l0_1.length : Int)) = true:=decide_eq_true c3
    clear c3
    by_cases c4 : 0 ≤ x3_1
    ·rw [if_pos c4] at H
     have c4b0 : decide (0 ≤ x3_1) = true:=decide_eq_true c4
     clear c4
     replace H:=oB_ H
     obtain ⟨t196,A50,H⟩:=H
     replace H : (if t196 = true then (spec_l9Names.l0 k1 (wrap64 (x3_1 + 1)) a0_0 l0_1 l0_2 l0_3) else (some false)) = some r:=H
     have A5:=aM_ A50
     clear A50
     by_cases c6 : t196 = true
     ·subst c6
      have H1 : (spec_l9Names.l0 k1 (wrap64 (x3_1 + 1)) a0_0 l0_1 l0_2 l0_3) = some r:=by rw [if_pos rfl] at H;exact H
      clear H
      have H:=H1
      clear H1
      have H':=aM_ H
      clear H
      have hcz7_0 : wr.cell? ⟨gb194,0,none⟩ = some (.string a0_0):=(kC_ BK194.out 0).trans rfl
      have hcz7_1 : wr.cell? ⟨gb194,1,none⟩ = some (.slice A0_1 l0_1.length c0_1):=(kC_ BK194.out 1).trans rfl
      have hcz7_2 : wr.cell? ⟨gb194,2,none⟩ = some (.slice A0_2 l0_2.length c0_2):=(kC_ BK194.out 2).trans rfl
      have hcz7_3 : wr.cell? ⟨gb194,3,none⟩ = some (.slice A0_3 l0_3.length c0_3):=(kC_ BK194.out 3).trans rfl
      have hfz7_0:=kF_ BK194.out 0
      have hfz7_1:=kF_ BK194.out 1
      have hfz7_2:=kF_ BK194.out 2
      have hfz7_3:=kF_ BK194.out 3
      have p195 : 0 ≤ (x3_1 : Int):=oT_ (by first | (with_reducible assumption) | assumption)
      have q195 : x3_1 < (l0_1.length : Int):=oT_ (by first | (with_reducible assumption) | assumption)
      obtain ⟨ad195,e195,hx195_0,hx195_1,hx195_2⟩:=at_T82 HR0_1.out x3_1 p195 q195
      cases e195
      replace hx195_0:=(HB.out.cell (wL_ w _ hx195_0)).trans hx195_0
      replace hx195_1:=(HB.out.cell (wL_ w _ hx195_1)).trans hx195_1
      replace hx195_2:=(HB.out.cell (wL_ w _ hx195_2)).trans hx195_2
      replace p195:=eq_true p195
      replace q195:=eq_true q195
      go_wp2_with (first | ((with_reducible refine gate_callee (f:=107) rfl ?_);refine goesL_ (some 18) rfl rfl Tryd.func107 (by kernel_rfl) rfl #[.string ((rd_T82 l0_1 x3_1).f0)] rfl (by (try simp only [mA_,mC_,mN_]);first | done | rfl | (simp only [lD_,lT_];rfl)) ?_;(with_reducible refine (spec_l9Word.calls k1 ((rd_T82 l0_1 x3_1).f0) true _ A5.out).mono ?_);rintro e w8 ⟨rfl,hb⟩;refine ⟨_,rfl,?_⟩;have n0_:=aM_ (blk_below (g:=gb194) (o:=.cells #[.string a0_0,.slice (some ad195) l0_1.length c0_1,.slice A0_2 l0_2.length c0_2,.slice A0_3 l0_3.length c0_3] 35 (0,0)) (by exact kZ_ BK194) hb);have n1_:=aM_ (bT_ (by exact bZ_ HB) hb);clear BK194;clear HB;have BK194:=n0_;have HB:=n1_;clear n0_ n1_;(try clear hb);(try clear hb2);(try clear hk);(try clear hi)))
      go_roundg k1
      case measure=>have:=HK1.out;omega
      case rel=>exact ⟨(wrap64 (x3_1 + 1)),(by first | rfl | (simp;done) | (simp [*];done)),H', ⟨by have:=HK1.out;omega⟩,⟨by exact kZ_ BK194⟩,⟨by exact bZ_ HB⟩⟩
     ·replace c6:=Bool.eq_false_iff.mpr c6
      subst c6
      have H1 : (some false) = some r:=by rw [if_neg (show ¬ (false = true) by decide)] at H;exact H
      clear H
      have H:=H1
      clear H1
      obtain rfl:=Option.some.inj H
      have hcz9_0 : wr.cell? ⟨gb194,0,none⟩ = some (.string a0_0):=(kC_ BK194.out 0).trans rfl
      have hcz9_1 : wr.cell? ⟨gb194,1,none⟩ = some (.slice A0_1 l0_1.length c0_1):=(kC_ BK194.out 1).trans rfl
      have hcz9_2 : wr.cell? ⟨gb194,2,none⟩ = some (.slice A0_2 l0_2.length c0_2):=(kC_ BK194.out 2).trans rfl
      have hcz9_3 : wr.cell? ⟨gb194,3,none⟩ = some (.slice A0_3 l0_3.length c0_3):=(kC_ BK194.out 3).trans rfl
      have hfz9_0:=kF_ BK194.out 0
      have hfz9_1:=kF_ BK194.out 1
      have hfz9_2:=kF_ BK194.out 2
      have hfz9_3:=kF_ BK194.out 3
      have p195 : 0 ≤ (x3_1 : Int):=oT_ (by first | (with_reducible assumption) | assumption)
      have q195 : x3_1 < (l0_1.length : Int):=oT_ (by first | (with_reducible assumption) | assumption)
      obtain ⟨ad195,e195,hx195_0,hx195_1,hx195_2⟩:=at_T82 HR0_1.out x3_1 p195 q195
      cases e195
      replace hx195_0:=(HB.out.cell (wL_ w _ hx195_0)).trans hx195_0
      replace hx195_1:=(HB.out.cell (wL_ w _ hx195_1)).trans hx195_1
      replace hx195_2:=(HB.out.cell (wL_ w _ hx195_2)).trans hx195_2
      replace p195:=eq_true p195
      replace q195:=eq_true q195
      go_wp2_with (first | ((with_reducible refine gate_callee (f:=107) rfl ?_);refine goesL_ (some 18) rfl rfl Tryd.func107 (by kernel_rfl) rfl #[.string ((rd_T82 l0_1 x3_1).f0)] rfl (by (try simp only [mA_,mC_,mN_]);first | done | rfl | (simp only [lD_,lT_];rfl)) ?_;(with_reducible refine (spec_l9Word.calls k1 ((rd_T82 l0_1 x3_1).f0) false _ A5.out).mono ?_);rintro e w10 ⟨rfl,hb⟩;refine ⟨_,rfl,?_⟩;have n0_:=aM_ (blk_below (g:=gb194) (o:=.cells #[.string a0_0,.slice (some ad195) l0_1.length c0_1,.slice A0_2 l0_2.length c0_2,.slice A0_3 l0_3.length c0_3] 35 (0,0)) (by exact kZ_ BK194) hb);have n1_:=aM_ (bT_ (by exact bZ_ HB) hb);clear BK194;clear HB;have BK194:=n0_;have HB:=n1_;clear n0_ n1_;(try clear hb);(try clear hb2);(try clear hk);(try clear hi)))
      go_ret
      exact ⟨by first | rfl | (simp [errW_none,errW_some] <;> rfl) | (simp [*, errW_none,errW_some] <;> rfl),by exact bZ_ HB⟩
    ·rw [if_neg c4] at H
     exact absurd H (by simp)
   ·rw [if_neg c3] at H
    have c3b0 : decide (x3_1 < (l0_1.length : Int)) = false:=decide_eq_false c3
    clear c3
    have H':=aM_ H
    clear H
    have hcz11_0 : wr.cell? ⟨gb194,0,none⟩ = some (.string a0_0):=(kC_ BK194.out 0).trans rfl
    have hcz11_1 : wr.cell? ⟨gb194,1,none⟩ = some (.slice A0_1 l0_1.length c0_1):=(kC_ BK194.out 1).trans rfl
    have hcz11_2 : wr.cell? ⟨gb194,2,none⟩ = some (.slice A0_2 l0_2.length c0_2):=(kC_ BK194.out 2).trans rfl
    have hcz11_3 : wr.cell? ⟨gb194,3,none⟩ = some (.slice A0_3 l0_3.length c0_3):=(kC_ BK194.out 3).trans rfl
    have hfz11_0:=kF_ BK194.out 0
    have hfz11_1:=kF_ BK194.out 1
    have hfz11_2:=kF_ BK194.out 2
    have hfz11_3:=kF_ BK194.out 3
    go_wp2
    (try simp only [Act.put,sI_,sS_,sZ_])
    go_loopg [4] k1 (fun kq v4 w'=>∃ (x4_2 : Int),v4 = .int .i64 x4_2 ∧ Aside0 (spec_l9Names.l1 kq x4_2 a0_0 l0_1 l0_2 l0_3 = some r) ∧ Aside0 (kq ≤ k1) ∧ Aside0 (w'.heap[gb194]? = some (.cells #[.string a0_0,(.slice A0_1 l0_1.length c0_1),(.slice A0_2 l0_2.length c0_2),(.slice A0_3 l0_3.length c0_3)] 35 (0,0))) ∧ Aside0 (Below w.heap.size w w'))
    case atStart=>exact ⟨(0),(by first | rfl | (simp;done) | (simp [*];done)),H', ⟨Nat.le_refl _⟩,⟨by exact kZ_ BK194⟩,⟨by exact bZ_ HB⟩⟩
    case round =>
     clear H'
     try clear c1
     try clear p1
     try clear q1
     try clear hx1
     try clear p2
     try clear c3
     try clear c3b0
     try clear c4
     try clear c4b0
     try clear c6
     try clear p6
     try clear c10
     try clear hcz11_0
     try clear hcz11_1
     try clear hcz11_2
     try clear hcz11_3
     try clear hcz7_0
     try clear hcz7_1
     try clear hcz7_2
     try clear hcz7_3
     try clear hcz9_0
     try clear hcz9_1
     try clear hcz9_2
     try clear hcz9_3
     try clear hfz11_0
     try clear hfz11_1
     try clear hfz11_2
     try clear hfz11_3
     try clear hfz7_0
     try clear hfz7_1
     try clear hfz7_2
     try clear hfz7_3
     try clear hfz9_0
     try clear hfz9_1
     try clear hfz9_2
     try clear hfz9_3
     try clear hx195_0
     try clear hx195_1
     try clear hx195_2
     try clear p195
     try clear p2
     try clear q195
     obtain ⟨x4_2,rfl,HA,HK2,BK194,HB⟩:=hrel
     cases gk with
     | zero=>exact absurd HA.out (by simp [spec_l9Names.l1])
     | succ k2 =>
      have H:=HA.out
      clear HA
      simp only [spec_l9Names.l1] at H
      by_cases c12 : x4_2 < (l0_3.length : Int)
      ·rw [if_pos c12] at H
       have c12b0 : decide (x4_2 < (l0_3.length : Int)) = true:=decide_eq_true c12
       clear c12
       by_cases c13 : 0 ≤ x4_2
       ·rw [if_pos c13] at H
        have c13b0 : decide (0 ≤ x4_2) = true:=decide_eq_true c13
        clear c13
        replace H:=oB_ H
        obtain ⟨t198,A140,H⟩:=H
        replace H : (if t198 = true then (spec_l9Names.l1 k2 (wrap64 (x4_2 + 1)) a0_0 l0_1 l0_2 l0_3) else (some false)) = some r:=H
        have A14:=aM_ A140
        clear A140
        by_cases c15 : t198 = true
        ·subst c15
         have H1 : (spec_l9Names.l1 k2 (wrap64 (x4_2 + 1)) a0_0 l0_1 l0_2 l0_3) = some r:=by rw [if_pos rfl] at H;exact H
         clear H
         have H:=H1
         clear H1
         have H':=aM_ H
         clear H
         have hcz16_0 : wr.cell? ⟨gb194,0,none⟩ = some (.string a0_0):=(kC_ BK194.out 0).trans rfl
         have hcz16_1 : wr.cell? ⟨gb194,1,none⟩ = some (.slice A0_1 l0_1.length c0_1):=(kC_ BK194.out 1).trans rfl
         have hcz16_2 : wr.cell? ⟨gb194,2,none⟩ = some (.slice A0_2 l0_2.length c0_2):=(kC_ BK194.out 2).trans rfl
         have hcz16_3 : wr.cell? ⟨gb194,3,none⟩ = some (.slice A0_3 l0_3.length c0_3):=(kC_ BK194.out 3).trans rfl
         have hfz16_0:=kF_ BK194.out 0
         have hfz16_1:=kF_ BK194.out 1
         have hfz16_2:=kF_ BK194.out 2
         have hfz16_3:=kF_ BK194.out 3
         have p197 : 0 ≤ (x4_2 : Int):=oT_ (by first | (with_reducible assumption) | assumption)
         have q197 : x4_2 < (l0_3.length : Int):=oT_ (by first | (with_reducible assumption) | assumption)
         obtain ⟨ad197,A197_2,c197_2,e197,hx197_0,hx197_1,hx197_2,hl197_2,hi197_2⟩:=at_T69 HR0_3.out x4_2 p197 q197
         cases e197
         replace hx197_0:=(HB.out.cell (wL_ w _ hx197_0)).trans hx197_0
         replace hx197_1:=(HB.out.cell (wL_ w _ hx197_1)).trans hx197_1
         replace hx197_2:=(HB.out.cell (wL_ w _ hx197_2)).trans hx197_2
         have HR197_2:=aM_ hi197_2
         have HC197_2:=aM_ hl197_2
         clear hi197_2 hl197_2
         replace p197:=eq_true p197
         replace q197:=eq_true q197
         go_wp2_with (first | ((with_reducible refine gate_callee (f:=107) rfl ?_);refine goesL_ (some 33) rfl rfl Tryd.func107 (by kernel_rfl) rfl #[.string ((rd_T69 l0_3 x4_2).f0)] rfl (by (try simp only [mA_,mC_,mN_]);first | done | rfl | (simp only [lD_,lT_];rfl)) ?_;(with_reducible refine (spec_l9Word.calls k2 ((rd_T69 l0_3 x4_2).f0) true _ A14.out).mono ?_);rintro e w17 ⟨rfl,hb⟩;refine ⟨_,rfl,?_⟩;have n0_:=aM_ (blk_below (g:=gb194) (o:=.cells #[.string a0_0,.slice A0_1 l0_1.length c0_1,.slice A0_2 l0_2.length c0_2,.slice (some ad197) l0_3.length c0_3] 35 (0,0)) (by exact kZ_ BK194) hb);have n1_:=aM_ (bT_ (by exact bZ_ HB) hb);clear BK194;clear HB;have BK194:=n0_;have HB:=n1_;clear n0_ n1_;(try clear hb);(try clear hb2);(try clear hk);(try clear hi)))
         go_roundg k2
         case measure=>have:=HK1.out;have:=HK2.out;omega
         case rel=>exact ⟨(wrap64 (x4_2 + 1)),(by first | rfl | (simp;done) | (simp [*];done)),H', ⟨by have:=HK1.out;have:=HK2.out;omega⟩,⟨by exact kZ_ BK194⟩,⟨by exact bZ_ HB⟩⟩
        ·replace c15:=Bool.eq_false_iff.mpr c15
         subst c15
         have H1 : (some false) = some r:=by rw [if_neg (show ¬ (false = true) by decide)] at H;exact H
         clear H
         have H:=H1
         clear H1
         obtain rfl:=Option.some.inj H
         have hcz18_0 : wr.cell? ⟨gb194,0,none⟩ = some (.string a0_0):=(kC_ BK194.out 0).trans rfl
         have hcz18_1 : wr.cell? ⟨gb194,1,none⟩ = some (.slice A0_1 l0_1.length c0_1):=(kC_ BK194.out 1).trans rfl
         have hcz18_2 : wr.cell? ⟨gb194,2,none⟩ = some (.slice A0_2 l0_2.length c0_2):=(kC_ BK194.out 2).trans rfl
         have hcz18_3 : wr.cell? ⟨gb194,3,none⟩ = some (.slice A0_3 l0_3.length c0_3):=(kC_ BK194.out 3).trans rfl
         have hfz18_0:=kF_ BK194.out 0
         have hfz18_1:=kF_ BK194.out 1
         have hfz18_2:=kF_ BK194.out 2
         have hfz18_3:=kF_ BK194.out 3
         have p197 : 0 ≤ (x4_2 : Int):=oT_ (by first | (with_reducible assumption) | assumption)
         have q197 : x4_2 < (l0_3.length : Int):=oT_ (by first | (with_reducible assumption) | assumption)
         obtain ⟨ad197,A197_2,c197_2,e197,hx197_0,hx197_1,hx197_2,hl197_2,hi197_2⟩:=at_T69 HR0_3.out x4_2 p197 q197
         cases e197
         replace hx197_0:=(HB.out.cell (wL_ w _ hx197_0)).trans hx197_0
         replace hx197_1:=(HB.out.cell (wL_ w _ hx197_1)).trans hx197_1
         replace hx197_2:=(HB.out.cell (wL_ w _ hx197_2)).trans hx197_2
         have HR197_2:=aM_ hi197_2
         have HC197_2:=aM_ hl197_2
         clear hi197_2 hl197_2
         replace p197:=eq_true p197
         replace q197:=eq_true q197
         go_wp2_with (first | ((with_reducible refine gate_callee (f:=107) rfl ?_);refine goesL_ (some 33) rfl rfl Tryd.func107 (by kernel_rfl) rfl #[.string ((rd_T69 l0_3 x4_2).f0)] rfl (by (try simp only [mA_,mC_,mN_]);first | done | rfl | (simp only [lD_,lT_];rfl)) ?_;(with_reducible refine (spec_l9Word.calls k2 ((rd_T69 l0_3 x4_2).f0) false _ A14.out).mono ?_);rintro e w19 ⟨rfl,hb⟩;refine ⟨_,rfl,?_⟩;have n0_:=aM_ (blk_below (g:=gb194) (o:=.cells #[.string a0_0,.slice A0_1 l0_1.length c0_1,.slice A0_2 l0_2.length c0_2,.slice (some ad197) l0_3.length c0_3] 35 (0,0)) (by exact kZ_ BK194) hb);have n1_:=aM_ (bT_ (by exact bZ_ HB) hb);clear BK194;clear HB;have BK194:=n0_;have HB:=n1_;clear n0_ n1_;(try clear hb);(try clear hb2);(try clear hk);(try clear hi)))
         go_ret
         exact ⟨by first | rfl | (simp [errW_none,errW_some] <;> rfl) | (simp [*, errW_none,errW_some] <;> rfl),by exact bZ_ HB⟩
       ·rw [if_neg c13] at H
        exact absurd H (by simp)
      ·rw [if_neg c12] at H
       have c12b0 : decide (x4_2 < (l0_3.length : Int)) = false:=decide_eq_false c12
       clear c12
       replace H:=oB_ H
       obtain ⟨t199,A200,H⟩:=H
       replace H : (some t199) = some r:=H
       have A20:=aM_ A200
       clear A200
       obtain rfl:=Option.some.inj H
       have hcz21_0 : wr.cell? ⟨gb194,0,none⟩ = some (.string a0_0):=(kC_ BK194.out 0).trans rfl
       have hcz21_1 : wr.cell? ⟨gb194,1,none⟩ = some (.slice A0_1 l0_1.length c0_1):=(kC_ BK194.out 1).trans rfl
       have hcz21_2 : wr.cell? ⟨gb194,2,none⟩ = some (.slice A0_2 l0_2.length c0_2):=(kC_ BK194.out 2).trans rfl
       have hcz21_3 : wr.cell? ⟨gb194,3,none⟩ = some (.slice A0_3 l0_3.length c0_3):=(kC_ BK194.out 3).trans rfl
       have hfz21_0:=kF_ BK194.out 0
       have hfz21_1:=kF_ BK194.out 1
       have hfz21_2:=kF_ BK194.out 2
       have hfz21_3:=kF_ BK194.out 3
       go_wp2_with (first | ((with_reducible refine gate_callee (f:=107) rfl ?_);refine goesL_ (some 37) rfl rfl Tryd.func107 (by kernel_rfl) rfl #[.string a0_0] rfl (by (try simp only [mA_,mC_,mN_]);first | done | rfl | (simp only [lD_,lT_];rfl)) ?_;(with_reducible refine (spec_l9Word.calls k2 a0_0 t199 _ A20.out).mono ?_);rintro e w22 ⟨rfl,hb⟩;refine ⟨_,rfl,?_⟩;have n0_:=aM_ (blk_below (g:=gb194) (o:=.cells #[.string a0_0,.slice A0_1 l0_1.length c0_1,.slice A0_2 l0_2.length c0_2,.slice A0_3 l0_3.length c0_3] 35 (0,0)) (by exact kZ_ BK194) hb);have n1_:=aM_ (bT_ (by exact bZ_ HB) hb);clear BK194;clear HB;have BK194:=n0_;have HB:=n1_;clear n0_ n1_;(try clear hb);(try clear hb2);(try clear hk);(try clear hi)))
       go_ret
       exact ⟨by first | rfl | (simp [errW_none,errW_some] <;> rfl) | (simp [*, errW_none,errW_some] <;> rfl),by exact bZ_ HB⟩
def spec_l9Types.l0 : Nat → Int → ByteArray → List (S82) → List (S85) → List (S69) → Option (Bool)
 | 0,_,_,_,_,_=>none
 | k + 1,x3,x201000,x201001,x201002,x201003=>if x3 < (x201001.length : Int) then (if 0 ≤ x3 then ((spec_l1In.f ((rd_T82 x201001 x3).f1) 1 4).bind fun t202=>(if t202 = true then (spec_l9Types.l0 k (wrap64 (x3 + 1)) x201000 x201001 x201002 x201003) else (some false))) else (none)) else ((spec_l1In.f (x201001.length : Int) 1 6).bind fun t203=>(some t203))
def spec_l9Types.f (k : Nat) (a0_0 : ByteArray) (l0_1 : List (S82)) (l0_2 : List (S85)) (l0_3 : List (S69)) : Option (Bool):=spec_l9Types.l0 k 0 a0_0 l0_1 l0_2 l0_3
theorem spec_l9Types.mono_l : ∀ k,(∀ y0 y1 y2 y3 y4,LeO (spec_l9Types.l0 k y0 y1 y2 y3 y4) (spec_l9Types.l0 (k + 1) y0 y1 y2 y3 y4))
 | 0=>fun _ _ _ _ _ r h=>by simp [spec_l9Types.l0] at h
 | k + 1=>by
  have ih0:=spec_l9Types.mono_l k
  ·intro y0 y1 y2 y3 y4
   unfold spec_l9Types.l0
   repeat' first
   | (with_reducible exact ih0 _ _ _ _ _)
   | (with_reducible exact LeO.refl _)
   | (with_reducible exact LeO.none _)
   | (with_reducible refine LeO.ite ?_ ?_)
   | (with_reducible refine LeO.bind ?_ (fun _=>?_))
   | exact ih0 _ _ _ _ _
   | exact LeO.none _
   | refine LeO.ite ?_ ?_
   | refine LeO.bind ?_ (fun _=>?_)
theorem spec_l9Types.mono : ∀ a0 a1 a2 a3 k,LeO (spec_l9Types.f k a0 a1 a2 a3) (spec_l9Types.f (k + 1) a0 a1 a2 a3):=by
 intro a0 a1 a2 a3 k
 have ih0:=spec_l9Types.mono_l k
 unfold spec_l9Types.f
 repeat' first
   | (with_reducible exact ih0 _ _ _ _ _)
   | (with_reducible exact LeO.refl _)
   | (with_reducible exact LeO.none _)
   | (with_reducible refine LeO.ite ?_ ?_)
   | (with_reducible refine LeO.bind ?_ (fun _=>?_))
   | exact ih0 _ _ _ _ _
   | exact LeO.none _
   | refine LeO.ite ?_ ?_
   | refine LeO.bind ?_ (fun _=>?_)
set_option maxHeartbeats 8000000 in
set_option maxRecDepth 100000 in
theorem spec_l9Types.calls (k : Nat) (a0_0 : ByteArray) (A0_1 : Option Addr) (c0_1 : Nat) (l0_1 : List (S82)) (A0_2 : Option Addr) (c0_2 : Nat) (l0_2 : List (S85)) (A0_3 : Option Addr) (c0_3 : Nat) (l0_3 : List (S69)) (r : Bool) (w : World) (hr0_1 : Kd.C k82 w A0_1 l0_1.length l0_1) (hc0_1 : l0_1.length ≤ c0_1) (hr0_2 : Kd.C k85 w A0_2 l0_2.length l0_2) (hc0_2 : l0_2.length ≤ c0_2) (hr0_3 : Kd.C k69 w A0_3 l0_3.length l0_3) (hc0_3 : l0_3.length ≤ c0_3) (h : spec_l9Types.f k a0_0 l0_1 l0_2 l0_3 = some r) :
  Calls Tryd.prog 61 #[.agg #[.string a0_0,.slice A0_1 l0_1.length c0_1,.slice A0_2 l0_2.length c0_2,.slice A0_3 l0_3.length c0_3]] w fun e w'=>e = .returned (.bool r) ∧ Below w.heap.size w w':=by
 have hu35:=Tryd.underlying35
 have HR0_1:=aM_ hr0_1
 have HC0_1:=aM_ hc0_1
 clear hr0_1 hc0_1
 have HR0_2:=aM_ hr0_2
 have HC0_2:=aM_ hc0_2
 clear hr0_2 hc0_2
 have HR0_3:=aM_ hr0_3
 have HC0_3:=aM_ hc0_3
 clear hr0_3 hc0_3
 have HB:=aM_ (Below.refl w.heap.size w)
 have H : (spec_l9Types.l0 k 0 a0_0 l0_1 l0_2 l0_3) = some r:=h
 clear h
 have H':=aM_ H
 clear H
 go_enter Tryd.func61,Tryd.ntmps61
 go_wp2_with (first | ((with_reducible refine gate_dst (N:=1) rfl ?_);refine box_event ?hg (N:=1) ?hd (cs:=#[.string a0_0,.slice A0_1 l0_1.length c0_1,.slice A0_2 l0_2.length c0_2,.slice A0_3 l0_3.length c0_3]) (t:=35) ?hr ?_;(case hd=>rfl);(case hg=>rfl);(case hr=>first | (go_simp;done) | (go_simp;rfl));intro gb200 hg w2 hbox hb;have n0_:=aM_ (bT_ (by exact bZ_ HB) hb);have n1_:=aM_ (hbox);have n2_:=aM_ ((by rw [hg];exact (bS_ (by exact bZ_ HB)) : w.heap.size ≤ gb200));have n3_:=aM_ ((by rw [hg];exact (bS_ (by exact bZ_ HB)) : w.heap.size ≤ gb200));clear HB;have HB:=n0_;have BK200:=n1_;have GW200:=n2_;have GE200:=n3_;clear n0_ n1_ n2_ n3_;clear hb hbox hg))
 (try simp only [Act.put,sI_,sS_,sZ_])
 go_loopg [3] k (fun kq v3 w'=>∃ (x3_1 : Int),v3 = .int .i64 x3_1 ∧ Aside0 (spec_l9Types.l0 kq x3_1 a0_0 l0_1 l0_2 l0_3 = some r) ∧ Aside0 (kq ≤ k) ∧ Aside0 (w'.heap[gb200]? = some (.cells #[.string a0_0,(.slice A0_1 l0_1.length c0_1),(.slice A0_2 l0_2.length c0_2),(.slice A0_3 l0_3.length c0_3)] 35 (0,0))) ∧ Aside0 (Below w.heap.size w w'))
 case atStart=>exact ⟨(0),(by first | rfl | (simp;done) | (simp [*];done)),H', ⟨Nat.le_refl _⟩,⟨by exact kZ_ BK200⟩,⟨by exact bZ_ HB⟩⟩
 case round =>
  clear H'
  try clear p2
  obtain ⟨x3_1,rfl,HA,HK1,BK200,HB⟩:=hrel
  cases gk with
  | zero=>exact absurd HA.out (by simp [spec_l9Types.l0])
  | succ k1 =>
   have H:=HA.out
   clear HA
   simp only [spec_l9Types.l0] at H
   by_cases c3 : x3_1 < (l0_1.length : Int)
   ·rw [if_pos c3] at H
    have c3b0 : decide (x3_1 < (l0_1.length : Int)) = true:=decide_eq_true c3
    clear c3
    by_cases c4 : 0 ≤ x3_1
    ·rw [if_pos c4] at H
     have c4b0 : decide (0 ≤ x3_1) = true:=decide_eq_true c4
     clear c4
     replace H:=oB_ H
     obtain ⟨t202,A50,H⟩:=H
     replace H : (if t202 = true then (spec_l9Types.l0 k1 (wrap64 (x3_1 + 1)) a0_0 l0_1 l0_2 l0_3) else (some false)) = some r:=H
     have A5:=aM_ A50
     clear A50
     by_cases c6 : t202 = true
     ·subst c6
      have H1 : (spec_l9Types.l0 k1 (wrap64 (x3_1 + 1)) a0_0 l0_1 l0_2 l0_3) = some r:=by rw [if_pos rfl] at H;exact H
      clear H
      have H:=H1
      clear H1
      have H':=aM_ H
      clear H
      have hcz7_0 : wr.cell? ⟨gb200,0,none⟩ = some (.string a0_0):=(kC_ BK200.out 0).trans rfl
      have hcz7_1 : wr.cell? ⟨gb200,1,none⟩ = some (.slice A0_1 l0_1.length c0_1):=(kC_ BK200.out 1).trans rfl
      have hcz7_2 : wr.cell? ⟨gb200,2,none⟩ = some (.slice A0_2 l0_2.length c0_2):=(kC_ BK200.out 2).trans rfl
      have hcz7_3 : wr.cell? ⟨gb200,3,none⟩ = some (.slice A0_3 l0_3.length c0_3):=(kC_ BK200.out 3).trans rfl
      have hfz7_0:=kF_ BK200.out 0
      have hfz7_1:=kF_ BK200.out 1
      have hfz7_2:=kF_ BK200.out 2
      have hfz7_3:=kF_ BK200.out 3
      have p201 : 0 ≤ (x3_1 : Int):=oT_ (by first | (with_reducible assumption) | assumption)
      have q201 : x3_1 < (l0_1.length : Int):=oT_ (by first | (with_reducible assumption) | assumption)
      obtain ⟨ad201,e201,hx201_0,hx201_1,hx201_2⟩:=at_T82 HR0_1.out x3_1 p201 q201
      cases e201
      replace hx201_0:=(HB.out.cell (wL_ w _ hx201_0)).trans hx201_0
      replace hx201_1:=(HB.out.cell (wL_ w _ hx201_1)).trans hx201_1
      replace hx201_2:=(HB.out.cell (wL_ w _ hx201_2)).trans hx201_2
      replace p201:=eq_true p201
      replace q201:=eq_true q201
      go_wp2_with (first | ((with_reducible refine gate_callee (f:=101) rfl ?_);refine goesL_ (some 17) rfl rfl Tryd.func101 (by kernel_rfl) rfl #[.int .i64 ((rd_T82 l0_1 x3_1).f1),.int .i64 1,.int .i64 4] rfl (by (try simp only [mA_,mC_,mN_]);first | done | rfl | (simp only [lD_,lT_];rfl)) ?_;(with_reducible refine (spec_l1In.calls ((rd_T82 l0_1 x3_1).f1) 1 4 true _ A5.out).mono ?_);rintro e w' ⟨rfl,⟨nd,rfl⟩⟩;refine ⟨_,rfl,?_⟩))
      go_roundg k1
      case measure=>have:=HK1.out;omega
      case rel=>exact ⟨(wrap64 (x3_1 + 1)),(by first | rfl | (simp;done) | (simp [*];done)),H', ⟨by have:=HK1.out;omega⟩,⟨by exact kZ_ BK200⟩,⟨by exact bZ_ HB⟩⟩
     ·replace c6:=Bool.eq_false_iff.mpr c6
      subst c6
      have H1 : (some false) = some r:=by rw [if_neg (show ¬ (false = true) by decide)] at H;exact H
      clear H
      have H:=H1
      clear H1
      obtain rfl:=Option.some.inj H
      have hcz8_0 : wr.cell? ⟨gb200,0,none⟩ = some (.string a0_0):=(kC_ BK200.out 0).trans rfl
      have hcz8_1 : wr.cell? ⟨gb200,1,none⟩ = some (.slice A0_1 l0_1.length c0_1):=(kC_ BK200.out 1).trans rfl
      have hcz8_2 : wr.cell? ⟨gb200,2,none⟩ = some (.slice A0_2 l0_2.length c0_2):=(kC_ BK200.out 2).trans rfl
      have hcz8_3 : wr.cell? ⟨gb200,3,none⟩ = some (.slice A0_3 l0_3.length c0_3):=(kC_ BK200.out 3).trans rfl
      have hfz8_0:=kF_ BK200.out 0
      have hfz8_1:=kF_ BK200.out 1
      have hfz8_2:=kF_ BK200.out 2
      have hfz8_3:=kF_ BK200.out 3
      have p201 : 0 ≤ (x3_1 : Int):=oT_ (by first | (with_reducible assumption) | assumption)
      have q201 : x3_1 < (l0_1.length : Int):=oT_ (by first | (with_reducible assumption) | assumption)
      obtain ⟨ad201,e201,hx201_0,hx201_1,hx201_2⟩:=at_T82 HR0_1.out x3_1 p201 q201
      cases e201
      replace hx201_0:=(HB.out.cell (wL_ w _ hx201_0)).trans hx201_0
      replace hx201_1:=(HB.out.cell (wL_ w _ hx201_1)).trans hx201_1
      replace hx201_2:=(HB.out.cell (wL_ w _ hx201_2)).trans hx201_2
      replace p201:=eq_true p201
      replace q201:=eq_true q201
      go_wp2_with (first | ((with_reducible refine gate_callee (f:=101) rfl ?_);refine goesL_ (some 17) rfl rfl Tryd.func101 (by kernel_rfl) rfl #[.int .i64 ((rd_T82 l0_1 x3_1).f1),.int .i64 1,.int .i64 4] rfl (by (try simp only [mA_,mC_,mN_]);first | done | rfl | (simp only [lD_,lT_];rfl)) ?_;(with_reducible refine (spec_l1In.calls ((rd_T82 l0_1 x3_1).f1) 1 4 false _ A5.out).mono ?_);rintro e w' ⟨rfl,⟨nd,rfl⟩⟩;refine ⟨_,rfl,?_⟩))
      go_ret
      exact ⟨by first | rfl | (simp [errW_none,errW_some] <;> rfl) | (simp [*, errW_none,errW_some] <;> rfl),by exact bZ_ HB⟩
    ·rw [if_neg c4] at H
     exact absurd H (by simp)
   ·rw [if_neg c3] at H
    have c3b0 : decide (x3_1 < (l0_1.length : Int)) = false:=decide_eq_false c3
    clear c3
    replace H:=oB_ H
    obtain ⟨t203,A90,H⟩:=H
    replace H : (some t203) = some r:=H
    have A9:=aM_ A90
    clear A90
    obtain rfl:=Option.some.inj H
    have hcz10_0 : wr.cell? ⟨gb200,0,none⟩ = some (.string a0_0):=(kC_ BK200.out 0).trans rfl
    have hcz10_1 : wr.cell? ⟨gb200,1,none⟩ = some (.slice A0_1 l0_1.length c0_1):=(kC_ BK200.out 1).trans rfl
    have hcz10_2 : wr.cell? ⟨gb200,2,none⟩ = some (.slice A0_2 l0_2.length c0_2):=(kC_ BK200.out 2).trans rfl
    have hcz10_3 : wr.cell? ⟨gb200,3,none⟩ = some (.slice A0_3 l0_3.length c0_3):=(kC_ BK200.out 3).trans rfl
    have hfz10_0:=kF_ BK200.out 0
    have hfz10_1:=kF_ BK200.out 1
    have hfz10_2:=kF_ BK200.out 2
    have hfz10_3:=kF_ BK200.out 3
    go_wp2_with (first | ((with_reducible refine gate_callee (f:=101) rfl ?_);refine goesL_ (some 22) rfl rfl Tryd.func101 (by kernel_rfl) rfl #[.int .i64 (l0_1.length : Int),.int .i64 1,.int .i64 6] rfl (by (try simp only [mA_,mC_,mN_]);first | done | rfl | (simp only [lD_,lT_];rfl)) ?_;(with_reducible refine (spec_l1In.calls (l0_1.length : Int) 1 6 t203 _ A9.out).mono ?_);rintro e w' ⟨rfl,⟨nd,rfl⟩⟩;refine ⟨_,rfl,?_⟩))
    go_ret
    exact ⟨by first | rfl | (simp [errW_none,errW_some] <;> rfl) | (simp [*, errW_none,errW_some] <;> rfl),by exact bZ_ HB⟩
end Go.Proofs.YtipehkeabnfngaaDoor.PFnExactDefText
