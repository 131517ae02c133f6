import Derived.Test.YtllgmgpfdnofmaaZNDPFnNodesx0
namespace Go.Proofs.Ytllgmgpfdnofmaa.PFnNodes
open Go.RowKit Go.Proofs.YtllgmgpfdnofmaaW.PrintWords Go.Proofs.YtllgmgpfdnofmaaW.PrintLast Go.Proofs.YtllgmgpfdnofmaaW.PrintMore Go.Proofs.Ytllgmgpfdnofmaa.Xtra
attribute [local go_sem] max2_int min2_int max_two min_two max_three min_three max_four min_four str_leq str_gtr str_geq setCell_drewN cell_set2 cell_set3   -- for this text's walks alone
set_option linter.unusedVariables false
set_option linter.unusedSimpArgs false
def laws_big.f (l0 : List Int) : Option (Bool):=some (decide ((l0.length : Int) > 1048576))
set_option maxHeartbeats 8000000 in
set_option maxRecDepth 100000 in
theorem laws_big.calls (A0 : Option Addr) (c0 : Nat) (l0 : List Int) (r : Bool) (w : World) (hr0 : Kd.C (Kd.int .u8) w A0 l0.length l0) (hc0 : l0.length ≤ c0) (h : laws_big.f l0 = some r) :
  Calls Try.prog 25 #[.slice A0 l0.length c0] w fun e w'=>e = .returned (.bool r) ∧ Drawn0 w w':=by
 have HR0:=aM_ hr0
 have HC0:=aM_ hc0
 clear hr0 hc0
 have H : (some (decide ((l0.length : Int) > 1048576))) = some r:=h
 clear h
 obtain rfl:=Option.some.inj H
 go_enter Try.func25,Try.ntmps25
 go_wp2
 go_ret
 exact ⟨by first | rfl | (simp;done) | (simp [*];done),by repeat (first | exact Drawn0.refl _ | apply Drawn0.step)⟩
def J155 (w0 W : World) (g : Nat) (f0 : List Int) (f1 : Int) (f2 : Int) : Prop:=∃ A0 c0,W.heap[g]? = some (.cells #[.slice A0 f0.length c0,.int .i64 f1,.int .i64 f2] 155 (0,0)) ∧ w0.heap.size ≤ g ∧ Kd.C (Kd.int .u8) w0 A0 f0.length f0 ∧ f0.length ≤ c0
theorem J155.grown {w0 W : World}{g : Nat}{f0 : List Int}{f1 : Int}{f2 : Int}{W1 : World}{row : Option Nat} (h : J155 w0 W g f0 f1 f2) (hw : W.grownBy W1 row) (hne : some g ≠ row) : J155 w0 W1 g f0 f1 f2:=by
 obtain ⟨A0,c0,hb,hg,hr0,hl0⟩:=h
 exact ⟨A0,c0,blk_grown hb hw hne,hg,hr0,hl0⟩
theorem J155.kept {w0 W : World}{g : Nat}{f0 : List Int}{f1 : Int}{f2 : Int}{W1 : World}{S : Nat → Prop} (h : J155 w0 W g f0 f1 f2) (hk : Kept W W1 S) (hne : ¬ S g) : J155 w0 W1 g f0 f1 f2:=by
 obtain ⟨A0,c0,hb,hg,hr0,hl0⟩:=h
 exact ⟨A0,c0,blk_kept hb hk hne,hg,hr0,hl0⟩
theorem J155.below {w0 W : World}{g : Nat}{f0 : List Int}{f1 : Int}{f2 : Int}{W1 : World} (h : J155 w0 W g f0 f1 f2) (hw : Below W.heap.size W W1) : J155 w0 W1 g f0 f1 f2:=h.grown (grown_of_below hw none) (by simp)
theorem J155.alloc {w0 W : World}{g : Nat}{f0 : List Int}{f1 : Int}{f2 : Int} (h : J155 w0 W g f0 f1 f2) (o : Obj) : J155 w0 (W.alloc o) g f0 f1 f2:=h.below (bA_ (Below.refl _ _) o)
theorem J155.drewN {w0 W : World}{g : Nat}{f0 : List Int}{f1 : Int}{f2 : Int} (h : J155 w0 W g f0 f1 f2) (m : Nat) : J155 w0 (W.drewN m) g f0 f1 f2:=h
theorem J155.drew {w0 W : World}{g : Nat}{f0 : List Int}{f1 : Int}{f2 : Int} (h : J155 w0 W g f0 f1 f2) : J155 w0 W.drew g f0 f1 f2:=h
theorem J155.at_ {w0 W : World}{g : Nat}{f0 : List Int}{f1 : Int}{f2 : Int}{w' : World}{m : Nat} (hq : W.drewN m = w') (h : J155 w0 W g f0 f1 f2) : J155 w0 w' g f0 f1 f2:=by subst hq;exact J155.drewN h m
theorem J155.apart {w0 W : World}{g : Nat}{f0 : List Int}{f1 : Int}{f2 : Int}{α : Type}{d : Kd α}{e : Nat}{base : Nat}{ok : Nat → Prop}{v : Value}{xs : List α} (h : J155 w0 W g f0 f1 f2) (ho : d.R e W base ok v xs) (ht : ∀ q,q ∈ e :: d.E → q ≠ 155) : d.R e W base (fun k=>ok k ∧ k ≠ g) v xs:=by
 obtain ⟨A0,c0,hb,hg,hr0,hl0⟩:=h
 exact Kd.R_types ho hb ht
theorem J155.own_ne {w0 W : World}{g : Nat}{f0 : List Int}{f1 : Int}{f2 : Int}{α : Type}{d : Kd α}{e : Nat}{base : Nat}{ok : Nat → Prop}{v : Value}{xs : List α} (h : J155 w0 W g f0 f1 f2) (ho : d.R e W base ok v xs) (ht : e ≠ 155) : some g ≠ v.ownBlock:=by
 obtain ⟨A0,c0,hb,hg,hr0,hl0⟩:=h
 exact Kd.R_ne ho hb ht
theorem J155.lt {w0 W : World}{g : Nat}{f0 : List Int}{f1 : Int}{f2 : Int} (h : J155 w0 W g f0 f1 f2) : g < W.heap.size:=by
 obtain ⟨A0,c0,hb,hg,hr0,hl0⟩:=h
 exact blk_lt hb
theorem J155.ge {w0 W : World}{g : Nat}{f0 : List Int}{f1 : Int}{f2 : Int} (h : J155 w0 W g f0 f1 f2) : w0.heap.size ≤ g:=by
 obtain ⟨A0,c0,hb,hg,hr0,hl0⟩:=h
 exact hg
theorem J155.ne_blk {w0 W : World}{g : Nat}{f0 : List Int}{f1 : Int}{f2 : Int}{a : Nat}{cs : Array Value}{t : TypeId}{fr : Nat × Nat} (h : J155 w0 W g f0 f1 f2) (hb2 : W.heap[a]? = some (.cells cs t fr)) (ht : t ≠ 155) : g ≠ a:=by
 obtain ⟨A0,c0,hb,hg,hr0,hl0⟩:=h
 rintro rfl
 rw [hb] at hb2
 injection hb2 with hb2
 injection hb2 with _ ht2
 exact ht ht2.symm
theorem J155.far {w0 W : World}{g : Nat}{f0 : List Int}{f1 : Int}{f2 : Int}{p : Addr} (h : J155 w0 W g f0 f1 f2) (hne : g ≠ p.block) (u : Value) : J155 w0 (W.setCell p u) g f0 f1 f2:=by
 obtain ⟨A0,c0,hb,hg,hr0,hl0⟩:=h
 exact ⟨A0,c0,blk_far hb hne u,hg,hr0,hl0⟩
theorem J155.z {w0 W : World}{g : Nat}{f0 : List Int}{f1 : Int}{f2 : Int}  {X_ : World} (h : Aside0 (J155 w0 W g f0 f1 f2)) [s : Fst g W X_] : J155 w0 X_ g f0 f1 f2:=by
  obtain ⟨a0_,a1_,hb_,r_⟩:=h.out
  exact ⟨a0_,a1_,s.out _ _ hb_,r_⟩
theorem J155.y {w0 W : World}{g : Nat}{f0 : List Int}{f1 : Int}{f2 : Int}  {X_ : World} (h : J155 w0 W g f0 f1 f2) [s : Fs1 g X_ W] : J155 w0 X_ g f0 f1 f2:=by
  obtain ⟨a0_,a1_,hb_,r_⟩:=h
  exact ⟨a0_,a1_,s.out _ _ hb_,r_⟩
theorem cellS155_0 {W : World}{g : Nat}{A0 : Option Addr}{c0 : Nat}{f0 : List Int}{f1 : Int}{f2 : Int} (h : W.heap[g]? = some (.cells #[.slice A0 f0.length c0,.int .i64 f1,.int .i64 f2] 155 (0,0))) : W.cell? ⟨g,0,none⟩ = some (.slice A0 f0.length c0):=(kC_ h 0).trans rfl
theorem cellS155_1 {W : World}{g : Nat}{A0 : Option Addr}{c0 : Nat}{f0 : List Int}{f1 : Int}{f2 : Int} (h : W.heap[g]? = some (.cells #[.slice A0 f0.length c0,.int .i64 f1,.int .i64 f2] 155 (0,0))) : W.cell? ⟨g,1,none⟩ = some (.int .i64 f1):=(kC_ h 1).trans rfl
theorem J155.set_1 {w0 W : World}{g : Nat}{f0 : List Int}{f1 : Int}{f2 : Int} (h : J155 w0 W g f0 f1 f2) (x : Int) : J155 w0 (W.setCell ⟨g,1,none⟩ (.int .i64 x)) g f0 x f2:=by
 obtain ⟨A0,c0,hb,hg,hr0,hl0⟩:=h
 exact ⟨A0,c0,by simpa using blk_set hb 1 (.int .i64 x),hg,hr0,hl0⟩
theorem cellS155_2 {W : World}{g : Nat}{A0 : Option Addr}{c0 : Nat}{f0 : List Int}{f1 : Int}{f2 : Int} (h : W.heap[g]? = some (.cells #[.slice A0 f0.length c0,.int .i64 f1,.int .i64 f2] 155 (0,0))) : W.cell? ⟨g,2,none⟩ = some (.int .i64 f2):=(kC_ h 2).trans rfl
theorem J155.set_2 {w0 W : World}{g : Nat}{f0 : List Int}{f1 : Int}{f2 : Int} (h : J155 w0 W g f0 f1 f2) (x : Int) : J155 w0 (W.setCell ⟨g,2,none⟩ (.int .i64 x)) g f0 f1 x:=by
 obtain ⟨A0,c0,hb,hg,hr0,hl0⟩:=h
 exact ⟨A0,c0,by simpa using blk_set hb 2 (.int .i64 x),hg,hr0,hl0⟩
def spec_l1New.l0 : Nat → List Int → Int → Int → Option (List Int × Int × Int)
 | 0,_,_,_=>none
 | k + 1,x0,x3,x4=>if x4 < (x0.length : Int) then (if x4 < 4000 then (if 0 ≤ x4 then (spec_l1New.l0 k x0 (Go.bits .and .i64 (wrap64 ((wrap64 ((wrap64 (x3 * 137)) + (wrap64 (rd x0 x4)))) + 11)) 1073741823) (wrap64 (x4 + 1))) else (none)) else (some (x0,0,x3))) else (some (x0,0,x3))
def spec_l1New.f (k : Nat) (l0 : List Int) : Option (List Int × Int × Int):=spec_l1New.l0 k l0 (wrap64 (758758 + (l0.length : Int))) 0
theorem spec_l1New.mono_l : ∀ k,(∀ y0 y1 y2,LeO (spec_l1New.l0 k y0 y1 y2) (spec_l1New.l0 (k + 1) y0 y1 y2))
 | 0=>fun _ _ _ r h=>by simp [spec_l1New.l0] at h
 | k + 1=>by
  have ih0:=spec_l1New.mono_l k
  ·intro y0 y1 y2
   unfold spec_l1New.l0
   repeat' first
   | (with_reducible exact ih0 _ _ _)
   | (with_reducible exact LeO.refl _)
   | (with_reducible exact LeO.none _)
   | (with_reducible refine LeO.ite ?_ ?_)
   | (with_reducible refine LeO.bind ?_ (fun _=>?_))
   | exact ih0 _ _ _
   | exact LeO.none _
   | refine LeO.ite ?_ ?_
   | refine LeO.bind ?_ (fun _=>?_)
theorem spec_l1New.mono : ∀ a0 k,LeO (spec_l1New.f k a0) (spec_l1New.f (k + 1) a0):=by
 intro a0 k
 have ih0:=spec_l1New.mono_l k
 unfold spec_l1New.f
 repeat' first
   | (with_reducible exact ih0 _ _ _)
   | (with_reducible exact LeO.refl _)
   | (with_reducible exact LeO.none _)
   | (with_reducible refine LeO.ite ?_ ?_)
   | (with_reducible refine LeO.bind ?_ (fun _=>?_))
   | exact ih0 _ _ _
   | exact LeO.none _
   | refine LeO.ite ?_ ?_
   | refine LeO.bind ?_ (fun _=>?_)
set_option maxHeartbeats 8000000 in
set_option maxRecDepth 100000 in
theorem spec_l1New.calls (k : Nat) (A0 : Option Addr) (c0 : Nat) (l0 : List Int) (r1 : List Int) (r2 : Int) (r3 : Int) (w0 w : World) (hB : Below w0.heap.size w0 w) (hr0 : Kd.C (Kd.int .u8) w0 A0 l0.length l0) (hc0 : l0.length ≤ c0) (h : spec_l1New.f k l0 = some (r1,r2,r3)) :
  Calls Try.prog 83 #[.slice A0 l0.length c0] w fun e w'=>∃ g_ : Nat,e = .returned (.pointer (some ⟨g_,0,none⟩)) ∧ J155 w0 w' g_ r1 r2 r3 ∧ Below w0.heap.size w0 w' ∧ Below w.heap.size w w':=by
 have hu155:=Try.underlying155
 have HR0:=aM_ hr0
 have HC0:=aM_ hc0
 clear hr0 hc0
 have HBW:=aM_ (Below.refl w.heap.size w)
 have HW0:=aM_ hB.size
 have HB:=aM_ hB
 clear hB
 have H : (spec_l1New.l0 k l0 (wrap64 (758758 + (l0.length : Int))) 0) = some (r1,r2,r3):=h
 clear h
 have H':=aM_ H
 clear H
 go_enter Try.func83,Try.ntmps83
 go_wp2
 (try simp only [Act.put,sI_,sS_,sZ_])
 go_loopg [3,4] k (fun kq v3 v4 w'=>∃ (x3_1 : Int) (x4_1 : Int),v3 = .int .i64 x3_1 ∧ v4 = .int .i64 x4_1 ∧ Aside0 (spec_l1New.l0 kq l0 x3_1 x4_1 = some (r1,r2,r3)) ∧ Aside0 (kq ≤ k) ∧ Aside0 (Below w0.heap.size w0 w') ∧ Aside0 (Below w.heap.size w w'))
 case atStart=>exact ⟨(wrap64 (758758 + (l0.length : Int))),(0),(by first | rfl | (simp;done) | (simp [*];done)),(by first | rfl | (simp;done) | (simp [*];done)),H', ⟨Nat.le_refl _⟩,⟨by exact bZ_ HB⟩,⟨by exact bZ_ HBW⟩⟩
 case round =>
  clear H'
  obtain ⟨x3_1,x4_1,rfl,rfl,HA,HK1,HB,HBW⟩:=hrel
  cases gk with
  | zero=>exact absurd HA.out (by simp [spec_l1New.l0])
  | succ k1 =>
   have H:=HA.out
   clear HA
   simp only [spec_l1New.l0] at H
   by_cases c2 : x4_1 < (l0.length : Int)
   ·rw [if_pos c2] at H
    have c2b0 : decide (x4_1 < (l0.length : Int)) = true:=decide_eq_true c2
    clear c2
    by_cases c3 : x4_1 < 4000
    ·rw [if_pos c3] at H
     have c3b0 : decide (x4_1 < 4000) = true:=decide_eq_true c3
     clear c3
     by_cases c4 : 0 ≤ x4_1
     ·rw [if_pos c4] at H
      have c4b0 : decide (0 ≤ x4_1) = true:=decide_eq_true c4
      clear c4
      have H':=aM_ H
      clear H
      have p296 : 0 ≤ (x4_1 : Int):=oT_ (by first | (with_reducible assumption) | assumption)
      have q296 : x4_1 < (l0.length : Int):=oT_ (by first | (with_reducible assumption) | assumption)
      obtain ⟨ad296,e296,hx296_0⟩:=Kd.at_int HR0.out x4_1 p296 q296
      cases e296
      replace hx296_0:=pw_cell_below HB.out hx296_0
      replace p296:=eq_true p296
      replace q296:=eq_true q296
      go_wp2
      go_roundg k1
      case measure=>have:=HK1.out;omega
      case rel=>exact ⟨(Go.bits .and .i64 (wrap64 ((wrap64 ((wrap64 (x3_1 * 137)) + (wrap64 (rd l0 x4_1)))) + 11)) 1073741823),(wrap64 (x4_1 + 1)),(by first | rfl | (simp;done) | (simp [*];done)),(by first | rfl | (simp;done) | (simp [*];done)),H', ⟨by have:=HK1.out;omega⟩,⟨by exact bZ_ HB⟩,⟨by exact bZ_ HBW⟩⟩
     ·rw [if_neg c4] at H
      exact absurd H (by simp)
    ·rw [if_neg c3] at H
     have c3b0 : decide (x4_1 < 4000) = false:=decide_eq_false c3
     clear c3
     simp only [Option.some.injEq,Prod.mk.injEq] at H
     obtain ⟨rfl,rfl,rfl⟩:=H
     go_wp2_with (first | ((with_reducible refine gate_dst (N:=31) rfl ?_);refine box_event ?hg (N:=31) ?hd (cs:=#[.slice A0 l0.length c0,.int .i64 0,.int .i64 x3_1]) (t:=155) ?hr ?_;(case hd=>rfl);(case hg=>rfl);(case hr=>first | (go_simp;done) | (go_simp;rfl));intro gb297 hg w5 hbox hb;have n0_:=aM_ (bT_ HBW.out hb);have n1_:=aM_ (bT_ (by exact bZ_ HB) hb);have n2_:=aM_ (hbox);have n3_:=aM_ ((by rw [hg];exact (bS_ (by exact bZ_ HBW)) : w.heap.size ≤ gb297));have n4_:=aM_ ((Nat.le_trans HW0.out (by rw [hg];exact (bS_ (by exact bZ_ HBW)) : w.heap.size ≤ gb297) : w0.heap.size ≤ gb297));clear HBW HB;have HBW:=n0_;have HB:=n1_;have BK297:=n2_;have GW297:=n3_;have GE297:=n4_;clear n0_ n1_ n2_ n3_ n4_ hb hbox hg))
     go_ret
     exact ⟨_,rfl,(show J155 w0 _ gb297 l0 0 x3_1 from ⟨_,_,by exact kZ_ BK297,GE297.out,HR0.out,HC0.out⟩),by exact bZ_ HB,by exact bZ_ HBW⟩
   ·rw [if_neg c2] at H
    have c2b0 : decide (x4_1 < (l0.length : Int)) = false:=decide_eq_false c2
    clear c2
    simp only [Option.some.injEq,Prod.mk.injEq] at H
    obtain ⟨rfl,rfl,rfl⟩:=H
    go_wp2_with (first | ((with_reducible refine gate_dst (N:=31) rfl ?_);refine box_event ?hg (N:=31) ?hd (cs:=#[.slice A0 l0.length c0,.int .i64 0,.int .i64 x3_1]) (t:=155) ?hr ?_;(case hd=>rfl);(case hg=>rfl);(case hr=>first | (go_simp;done) | (go_simp;rfl));intro gb298 hg w6 hbox hb;have n0_:=aM_ (bT_ HBW.out hb);have n1_:=aM_ (bT_ (by exact bZ_ HB) hb);have n2_:=aM_ (hbox);have n3_:=aM_ ((by rw [hg];exact (bS_ (by exact bZ_ HBW)) : w.heap.size ≤ gb298));have n4_:=aM_ ((Nat.le_trans HW0.out (by rw [hg];exact (bS_ (by exact bZ_ HBW)) : w.heap.size ≤ gb298) : w0.heap.size ≤ gb298));clear HBW HB;have HBW:=n0_;have HB:=n1_;have BK298:=n2_;have GW298:=n3_;have GE298:=n4_;clear n0_ n1_ n2_ n3_ n4_ hb hbox hg))
    go_ret
    exact ⟨_,rfl,(show J155 w0 _ gb298 l0 0 x3_1 from ⟨_,_,by exact kZ_ BK298,GE298.out,HR0.out,HC0.out⟩),by exact bZ_ HB,by exact bZ_ HBW⟩
def spec_l1Byte.f (s0_0 : List Int) (s0_1 : Int) (s0_2 : Int) : Option (Int × Int × Int):=if s0_1 < (s0_0.length : Int) then (if 0 ≤ s0_1 then (some (Go.bits .and .i64 (wrap64 ((Go.bits .and .i64 (Go.bits .xor .i64 ((wrap64 ((wrap64 (s0_2 * 6364136223846793005)) + 1442695040888963407)) / 8589934592) ((wrap64 ((wrap64 (s0_2 * 6364136223846793005)) + 1442695040888963407)) / 140737488355328)) 255) + (wrap64 (rd s0_0 s0_1)))) 255,wrap64 (s0_1 + 1),wrap64 ((wrap64 (s0_2 * 6364136223846793005)) + 1442695040888963407))) else (none)) else (some (Go.bits .and .i64 (Go.bits .xor .i64 ((wrap64 ((wrap64 (s0_2 * 6364136223846793005)) + 1442695040888963407)) / 8589934592) ((wrap64 ((wrap64 (s0_2 * 6364136223846793005)) + 1442695040888963407)) / 140737488355328)) 255,s0_1,wrap64 ((wrap64 (s0_2 * 6364136223846793005)) + 1442695040888963407)))
set_option maxHeartbeats 8000000 in
set_option maxRecDepth 100000 in
theorem spec_l1Byte.calls (g : Nat) (s0_0 : List Int) (s0_1 : Int) (s0_2 : Int) (r1 : Int) (r2 : Int) (r3 : Int) (w0 w : World) (hI : J155 w0 w g s0_0 s0_1 s0_2) (hB : Below w0.heap.size w0 w) (h : spec_l1Byte.f s0_0 s0_1 s0_2 = some (r1,r2,r3)) :
  Calls Try.prog 170 #[.pointer (some ⟨g,0,none⟩)] w fun e w'=>e = .returned (.int .i64 r1) ∧ J155 w0 w' g s0_0 r2 r3 ∧ Below w0.heap.size w0 w' ∧ KeepBut w w' g none:=by
 have HI0:=aM_ hI
 have HK:=aM_ (KeepBut.refl w g none)
 have HL:=aM_ hB.size
 clear hI
 have HW0:=aM_ hB.size
 have HB:=aM_ hB
 clear hB
 have H : (if s0_1 < (s0_0.length : Int) then (if 0 ≤ s0_1 then (some (Go.bits .and .i64 (wrap64 ((Go.bits .and .i64 (Go.bits .xor .i64 ((wrap64 ((wrap64 (s0_2 * 6364136223846793005)) + 1442695040888963407)) / 8589934592) ((wrap64 ((wrap64 (s0_2 * 6364136223846793005)) + 1442695040888963407)) / 140737488355328)) 255) + (wrap64 (rd s0_0 s0_1)))) 255,wrap64 (s0_1 + 1),wrap64 ((wrap64 (s0_2 * 6364136223846793005)) + 1442695040888963407))) else (none)) else (some (Go.bits .and .i64 (Go.bits .xor .i64 ((wrap64 ((wrap64 (s0_2 * 6364136223846793005)) + 1442695040888963407)) / 8589934592) ((wrap64 ((wrap64 (s0_2 * 6364136223846793005)) + 1442695040888963407)) / 140737488355328)) 255,s0_1,wrap64 ((wrap64 (s0_2 * 6364136223846793005)) + 1442695040888963407)))) = some (r1,r2,r3):=h
 clear h
 by_cases c2 : s0_1 < (s0_0.length : Int)
 ·rw [if_pos c2] at H
  have c2b0 : decide (s0_1 < (s0_0.length : Int)) = true:=decide_eq_true c2
  clear c2
  by_cases c3 : 0 ≤ s0_1
  ·rw [if_pos c3] at H
   have c3b0 : decide (0 ≤ s0_1) = true:=decide_eq_true c3
   clear c3
   simp only [Option.some.injEq,Prod.mk.injEq] at H
   obtain ⟨rfl,rfl,rfl⟩:=H
   obtain ⟨ASz4_0,cSz4_0,HGz4,hgz4,HSz4_0,HLnz4_0⟩:=HI0.out
   have hcz4_0:=cellS155_0 HGz4
   have hcz4_1:=cellS155_1 HGz4
   have hcz4_2:=cellS155_2 HGz4
   have hfz4_1:=kF_ HGz4 1
   have hfz4_2:=kF_ HGz4 2
   clear HGz4 hgz4
   have p299 : 0 ≤ (s0_1 : Int):=oT_ (by first | (with_reducible assumption) | assumption)
   have q299 : s0_1 < (s0_0.length : Int):=oT_ (by first | (with_reducible assumption) | assumption)
   obtain ⟨ad299,e299,hx299_0⟩:=Kd.at_int HSz4_0 s0_1 p299 q299
   cases e299
   have hn299_0 : ad299.block ≠ g:=Nat.ne_of_lt (Nat.lt_of_lt_of_le (by have:=wL_ _ _ hx299_0;first | rwa [add_block] at this | exact this) (J155.ge HI0.out))
   replace hx299_0:=pw_cell_below HB.out hx299_0
   replace hx299_0:=(cell_far (p:=⟨g,2,none⟩) (by first | (rw [add_block];exact hn299_0) | (show (Addr.add _ _).block ≠ _;rw [add_block];exact hn299_0) | exact hn299_0) (.int .i64 (wrap64 ((wrap64 (s0_2 * 6364136223846793005)) + 1442695040888963407)))).trans hx299_0
   (try have hy299_0:=fun (n_ : Nat)=>(show (((w.drewN n_).setCell ⟨g,2,none⟩ (.int .i64 (wrap64 ((wrap64 (s0_2 * 6364136223846793005)) + 1442695040888963407))))).cell? _ = some _ from hx299_0))
   clear hn299_0
   replace p299:=eq_true p299
   replace q299:=eq_true q299
   go_enter Try.func170,Try.ntmps170
   go_wp2
   repeat (go_quiet (fail);try go_wp2)
   go_ret
   exact ⟨by first | rfl | (simp [errW_none,errW_some] <;> rfl) | (simp [*, errW_none,errW_some] <;> rfl),by repeat first | exact J155.z HI0 | apply J155.set_1 | apply J155.set_2 | refine J155.y ?_,by have e0_:=aM_ (J155.ge HI0.out);exact bZ_ HB,by exact eZ_ HK⟩
  ·rw [if_neg c3] at H
   exact absurd H (by simp)
 ·rw [if_neg c2] at H
  have c2b0 : decide (s0_1 < (s0_0.length : Int)) = false:=decide_eq_false c2
  clear c2
  simp only [Option.some.injEq,Prod.mk.injEq] at H
  obtain ⟨rfl,rfl,rfl⟩:=H
  obtain ⟨ASz5_0,cSz5_0,HGz5,hgz5,HSz5_0,HLnz5_0⟩:=HI0.out
  have hcz5_0:=cellS155_0 HGz5
  have hcz5_1:=cellS155_1 HGz5
  have hcz5_2:=cellS155_2 HGz5
  have hfz5_1:=kF_ HGz5 1
  have hfz5_2:=kF_ HGz5 2
  clear HGz5 hgz5
  go_enter Try.func170,Try.ntmps170
  go_wp2
  repeat (go_quiet (fail);try go_wp2)
  go_ret
  exact ⟨by first | rfl | (simp [errW_none,errW_some] <;> rfl) | (simp [*, errW_none,errW_some] <;> rfl),by repeat first | exact J155.z HI0 | apply J155.set_1 | apply J155.set_2 | refine J155.y ?_,by have e0_:=aM_ (J155.ge HI0.out);exact bZ_ HB,by exact eZ_ HK⟩
def spec_l1Below.f (s0_0 : List Int) (s0_1 : Int) (s0_2 : Int) (a1 : Int) : Option (Int × Int × Int):=if a1 ≤ 0 then (some (0,s0_1,s0_2)) else (if a1 ≤ 256 then ((spec_l1Byte.f s0_0 s0_1 s0_2).bind fun bt300=>(if a1 = 0 then (none) else (some (Int.tmod bt300.1 a1,bt300.2.1,bt300.2.2)))) else ((spec_l1Byte.f s0_0 s0_1 s0_2).bind fun bt303=>((spec_l1Byte.f s0_0 bt303.2.1 bt303.2.2).bind fun bt306=>((spec_l1Byte.f s0_0 bt306.2.1 bt306.2.2).bind fun bt309=>(if a1 = 0 then (none) else (some (Int.tmod (wrap64 ((wrap64 ((wrap64 (bt303.1 * 65536)) + (wrap64 (bt306.1 * 256)))) + bt309.1)) a1,bt309.2.1,bt309.2.2)))))))
set_option maxHeartbeats 8000000 in
set_option maxRecDepth 100000 in
theorem spec_l1Below.calls (g : Nat) (s0_0 : List Int) (s0_1 : Int) (s0_2 : Int) (a1 : Int) (r1 : Int) (r2 : Int) (r3 : Int) (w0 w : World) (hI : J155 w0 w g s0_0 s0_1 s0_2) (hB : Below w0.heap.size w0 w) (h : spec_l1Below.f s0_0 s0_1 s0_2 a1 = some (r1,r2,r3)) :
  Calls Try.prog 125 #[.pointer (some ⟨g,0,none⟩),.int .i64 a1] w fun e w'=>e = .returned (.int .i64 r1) ∧ J155 w0 w' g s0_0 r2 r3 ∧ Below w0.heap.size w0 w' ∧ KeepBut w w' g none:=by
 have HI0:=aM_ hI
 have HK:=aM_ (KeepBut.refl w g none)
 have HL:=aM_ hB.size
 clear hI
 have HW0:=aM_ hB.size
 have HB:=aM_ hB
 clear hB
 have H : (if a1 ≤ 0 then (some (0,s0_1,s0_2)) else (if a1 ≤ 256 then ((spec_l1Byte.f s0_0 s0_1 s0_2).bind fun bt300=>(if a1 = 0 then (none) else (some (Int.tmod bt300.1 a1,bt300.2.1,bt300.2.2)))) else ((spec_l1Byte.f s0_0 s0_1 s0_2).bind fun bt303=>((spec_l1Byte.f s0_0 bt303.2.1 bt303.2.2).bind fun bt306=>((spec_l1Byte.f s0_0 bt306.2.1 bt306.2.2).bind fun bt309=>(if a1 = 0 then (none) else (some (Int.tmod (wrap64 ((wrap64 ((wrap64 (bt303.1 * 65536)) + (wrap64 (bt306.1 * 256)))) + bt309.1)) a1,bt309.2.1,bt309.2.2)))))))) = some (r1,r2,r3):=h
 clear h
 by_cases c3 : a1 ≤ 0
 ·rw [if_pos c3] at H
  have c3b0 : decide (a1 ≤ 0) = true:=decide_eq_true c3
  clear c3
  simp only [Option.some.injEq,Prod.mk.injEq] at H
  obtain ⟨rfl,rfl,rfl⟩:=H
  go_enter Try.func125,Try.ntmps125
  go_wp2
  go_ret
  exact ⟨by first | rfl | (simp [errW_none,errW_some] <;> rfl) | (simp [*, errW_none,errW_some] <;> rfl),by repeat first | exact J155.z HI0 | apply J155.set_1 | apply J155.set_2 | refine J155.y ?_,by have e0_:=aM_ (J155.ge HI0.out);exact bZ_ HB,by exact eZ_ HK⟩
 ·rw [if_neg c3] at H
  have c3b0 : decide (a1 ≤ 0) = false:=decide_eq_false c3
  clear c3
  by_cases c4 : a1 ≤ 256
  ·rw [if_pos c4] at H
   have c4b0 : decide (a1 ≤ 256) = true:=decide_eq_true c4
   clear c4
   replace H:=oB_ H
   obtain ⟨⟨t300,t301,t302⟩,A50,H⟩:=H
   replace H : (if a1 = 0 then (none) else (some (Int.tmod t300 a1,t301,t302))) = some (r1,r2,r3):=H
   have A5:=aM_ A50
   clear A50
   by_cases c6 : a1 = 0
   ·rw [if_pos c6] at H
    exact absurd H (by simp)
   ·rw [if_neg c6] at H
    have c6b0 : (a1 == 0) = false:=beq_eq_false_iff_ne.mpr c6
    have c6b1 : (a1 != 0) = true:=bne_iff_ne.mpr c6
    simp only [Option.some.injEq,Prod.mk.injEq] at H
    obtain ⟨rfl,rfl,rfl⟩:=H
    go_enter Try.func125,Try.ntmps125
    go_wp2_with (first | ((with_reducible refine gate_callee (f:=170) rfl ?_);refine goesL_ (some 13) rfl rfl Try.func170 (by kernel_rfl) rfl #[.pointer (some ⟨g,0,none⟩)] rfl (by (try simp only [mA_,mC_,mN_]);first | done | rfl | (simp only [lD_,lT_];rfl)) ?_;(with_reducible refine (spec_l1Byte.calls g s0_0 s0_1 s0_2 t300 t301 t302 w0 _ ?side1 ?side2 A5.out).mono ?_);(case side1=>repeat first | exact J155.z HI0 | apply J155.set_1 | apply J155.set_2 | refine J155.y ?_);(case side2=>have e0_:=aM_ (J155.ge HI0.out);exact bZ_ HB);rintro e w7 ⟨rfl,hi,hb,hk⟩;refine ⟨_,rfl,?_⟩;have n0_:=aM_ (KeepBut.trans (by exact eZ_ HK) hk (.inl rfl));have n1_:=aM_ (hb);have n2_:=aM_ (hi);clear HK HB HI0;have HK:=n0_;have HB:=n1_;have HI0:=n2_;clear n0_ n1_ n2_ hb hk hi))
    go_ret
    exact ⟨by first | rfl | (simp [errW_none,errW_some] <;> rfl) | (simp [*, errW_none,errW_some] <;> rfl),by repeat first | exact J155.z HI0 | apply J155.set_1 | apply J155.set_2 | refine J155.y ?_,by have e0_:=aM_ (J155.ge HI0.out);exact bZ_ HB,by exact eZ_ HK⟩
  ·rw [if_neg c4] at H
   have c4b0 : decide (a1 ≤ 256) = false:=decide_eq_false c4
   clear c4
   replace H:=oB_ H
   obtain ⟨⟨t303,t304,t305⟩,A80,H⟩:=H
   replace H : ((spec_l1Byte.f s0_0 t304 t305).bind fun bt306=>((spec_l1Byte.f s0_0 bt306.2.1 bt306.2.2).bind fun bt309=>(if a1 = 0 then (none) else (some (Int.tmod (wrap64 ((wrap64 ((wrap64 (t303 * 65536)) + (wrap64 (bt306.1 * 256)))) + bt309.1)) a1,bt309.2.1,bt309.2.2))))) = some (r1,r2,r3):=H
   have A8:=aM_ A80
   clear A80
   replace H:=oB_ H
   obtain ⟨⟨t306,t307,t308⟩,A90,H⟩:=H
   replace H : ((spec_l1Byte.f s0_0 t307 t308).bind fun bt309=>(if a1 = 0 then (none) else (some (Int.tmod (wrap64 ((wrap64 ((wrap64 (t303 * 65536)) + (wrap64 (t306 * 256)))) + bt309.1)) a1,bt309.2.1,bt309.2.2)))) = some (r1,r2,r3):=H
   have A9:=aM_ A90
   clear A90
   replace H:=oB_ H
   obtain ⟨⟨t309,t310,t311⟩,A100,H⟩:=H
   replace H : (if a1 = 0 then (none) else (some (Int.tmod (wrap64 ((wrap64 ((wrap64 (t303 * 65536)) + (wrap64 (t306 * 256)))) + t309)) a1,t310,t311))) = some (r1,r2,r3):=H
   have A10:=aM_ A100
   clear A100
   by_cases c11 : a1 = 0
   ·rw [if_pos c11] at H
    exact absurd H (by simp)
   ·rw [if_neg c11] at H
    have c11b0 : (a1 == 0) = false:=beq_eq_false_iff_ne.mpr c11
    have c11b1 : (a1 != 0) = true:=bne_iff_ne.mpr c11
    simp only [Option.some.injEq,Prod.mk.injEq] at H
    obtain ⟨rfl,rfl,rfl⟩:=H
    go_enter Try.func125,Try.ntmps125
    go_wp2_with (first | ((with_reducible refine gate_callee (f:=170) rfl ?_);refine goesL_ (some 17) rfl rfl Try.func170 (by kernel_rfl) rfl #[.pointer (some ⟨g,0,none⟩)] rfl (by (try simp only [mA_,mC_,mN_]);first | done | rfl | (simp only [lD_,lT_];rfl)) ?_;(with_reducible refine (spec_l1Byte.calls g s0_0 s0_1 s0_2 t303 t304 t305 w0 _ ?side1 ?side2 A8.out).mono ?_);(case side1=>repeat first | exact J155.z HI0 | apply J155.set_1 | apply J155.set_2 | refine J155.y ?_);(case side2=>have e0_:=aM_ (J155.ge HI0.out);exact bZ_ HB);rintro e w12 ⟨rfl,hi,hb,hk⟩;refine ⟨_,rfl,?_⟩;have n0_:=aM_ (KeepBut.trans (by exact eZ_ HK) hk (.inl rfl));have n1_:=aM_ (hb);have n2_:=aM_ (hi);clear HK HB HI0;have HK:=n0_;have HB:=n1_;have HI0:=n2_;clear n0_ n1_ n2_ hb hk hi) | ((with_reducible refine gate_callee (f:=170) rfl ?_);refine goesL_ (some 19) rfl rfl Try.func170 (by kernel_rfl) rfl #[.pointer (some ⟨g,0,none⟩)] rfl (by (try simp only [mA_,mC_,mN_]);first | done | rfl | (simp only [lD_,lT_];rfl)) ?_;(with_reducible refine (spec_l1Byte.calls g s0_0 t304 t305 t306 t307 t308 w0 _ ?side1 ?side2 A9.out).mono ?_);(case side1=>repeat first | exact J155.z HI0 | apply J155.set_1 | apply J155.set_2 | refine J155.y ?_);(case side2=>have e0_:=aM_ (J155.ge HI0.out);exact bZ_ HB);rintro e w13 ⟨rfl,hi,hb,hk⟩;refine ⟨_,rfl,?_⟩;have n0_:=aM_ (KeepBut.trans (by exact eZ_ HK) hk (.inl rfl));have n1_:=aM_ (hb);have n2_:=aM_ (hi);clear HK HB HI0;have HK:=n0_;have HB:=n1_;have HI0:=n2_;clear n0_ n1_ n2_ hb hk hi) | ((with_reducible refine gate_callee (f:=170) rfl ?_);refine goesL_ (some 21) rfl rfl Try.func170 (by kernel_rfl) rfl #[.pointer (some ⟨g,0,none⟩)] rfl (by (try simp only [mA_,mC_,mN_]);first | done | rfl | (simp only [lD_,lT_];rfl)) ?_;(with_reducible refine (spec_l1Byte.calls g s0_0 t307 t308 t309 t310 t311 w0 _ ?side1 ?side2 A10.out).mono ?_);(case side1=>repeat first | exact J155.z HI0 | apply J155.set_1 | apply J155.set_2 | refine J155.y ?_);(case side2=>have e0_:=aM_ (J155.ge HI0.out);exact bZ_ HB);rintro e w14 ⟨rfl,hi,hb,hk⟩;refine ⟨_,rfl,?_⟩;have n0_:=aM_ (KeepBut.trans (by exact eZ_ HK) hk (.inl rfl));have n1_:=aM_ (hb);have n2_:=aM_ (hi);clear HK HB HI0;have HK:=n0_;have HB:=n1_;have HI0:=n2_;clear n0_ n1_ n2_ hb hk hi))
    go_ret
    exact ⟨by first | rfl | (simp [errW_none,errW_some] <;> rfl) | (simp [*, errW_none,errW_some] <;> rfl),by repeat first | exact J155.z HI0 | apply J155.set_1 | apply J155.set_2 | refine J155.y ?_,by have e0_:=aM_ (J155.ge HI0.out);exact bZ_ HB,by exact eZ_ HK⟩
def spec_l1Once.f (s0_0 : List Int) (s0_1 : Int) (s0_2 : Int) (a1 : Int) : Option (Bool × Int × Int):=(spec_l1Below.f s0_0 s0_1 s0_2 a1).bind fun bt312=>(some ((bt312.1 == 0),bt312.2.1,bt312.2.2))
set_option maxHeartbeats 8000000 in
set_option maxRecDepth 100000 in
theorem spec_l1Once.calls (g : Nat) (s0_0 : List Int) (s0_1 : Int) (s0_2 : Int) (a1 : Int) (r1 : Bool) (r2 : Int) (r3 : Int) (w0 w : World) (hI : J155 w0 w g s0_0 s0_1 s0_2) (hB : Below w0.heap.size w0 w) (h : spec_l1Once.f s0_0 s0_1 s0_2 a1 = some (r1,r2,r3)) :
  Calls Try.prog 107 #[.pointer (some ⟨g,0,none⟩),.int .i64 a1] w fun e w'=>e = .returned (.bool r1) ∧ J155 w0 w' g s0_0 r2 r3 ∧ Below w0.heap.size w0 w' ∧ KeepBut w w' g none:=by
 have HI0:=aM_ hI
 have HK:=aM_ (KeepBut.refl w g none)
 have HL:=aM_ hB.size
 clear hI
 have HW0:=aM_ hB.size
 have HB:=aM_ hB
 clear hB
 have H : ((spec_l1Below.f s0_0 s0_1 s0_2 a1).bind fun bt312=>(some ((bt312.1 == 0),bt312.2.1,bt312.2.2))) = some (r1,r2,r3):=h
 clear h
 replace H:=oB_ H
 obtain ⟨⟨t312,t313,t314⟩,A30,H⟩:=H
 replace H : (some ((t312 == 0),t313,t314)) = some (r1,r2,r3):=H
 have A3:=aM_ A30
 clear A30
 simp only [Option.some.injEq,Prod.mk.injEq] at H
 obtain ⟨rfl,rfl,rfl⟩:=H
 go_enter Try.func107,Try.ntmps107
 go_wp2_with (first | ((with_reducible refine gate_callee (f:=125) rfl ?_);refine goesL_ (some 7) rfl rfl Try.func125 (by kernel_rfl) rfl #[.pointer (some ⟨g,0,none⟩),.int .i64 a1] rfl (by (try simp only [mA_,mC_,mN_]);first | done | rfl | (simp only [lD_,lT_];rfl)) ?_;(with_reducible refine (spec_l1Below.calls g s0_0 s0_1 s0_2 a1 t312 t313 t314 w0 _ ?side1 ?side2 A3.out).mono ?_);(case side1=>repeat first | exact J155.z HI0 | apply J155.set_1 | apply J155.set_2 | refine J155.y ?_);(case side2=>have e0_:=aM_ (J155.ge HI0.out);exact bZ_ HB);rintro e w4 ⟨rfl,hi,hb,hk⟩;refine ⟨_,rfl,?_⟩;have n0_:=aM_ (KeepBut.trans (by exact eZ_ HK) hk (.inl rfl));have n1_:=aM_ (hb);have n2_:=aM_ (hi);clear HK HB HI0;have HK:=n0_;have HB:=n1_;have HI0:=n2_;clear n0_ n1_ n2_ hb hk hi))
 go_ret
 exact ⟨by first | rfl | (simp [errW_none,errW_some] <;> rfl) | (simp [*, errW_none,errW_some] <;> rfl),by repeat first | exact J155.z HI0 | apply J155.set_1 | apply J155.set_2 | refine J155.y ?_,by have e0_:=aM_ (J155.ge HI0.out);exact bZ_ HB,by exact eZ_ HK⟩
def spec_l1Str.f (s0_0 : List Int) (s0_1 : Int) (s0_2 : Int) (l1 : List ByteArray) : Option (ByteArray × Int × Int):=(spec_l1Below.f s0_0 s0_1 s0_2 (l1.length : Int)).bind fun bt315=>(if 0 ≤ bt315.1 then (if bt315.1 < (l1.length : Int) then (some (rdOf ByteArray.empty l1 bt315.1,bt315.2.1,bt315.2.2)) else (none)) else (none))
set_option maxHeartbeats 8000000 in
set_option maxRecDepth 100000 in
theorem spec_l1Str.calls (g : Nat) (s0_0 : List Int) (s0_1 : Int) (s0_2 : Int) (A1 : Option Addr) (c1 : Nat) (l1 : List ByteArray) (r1 : ByteArray) (r2 : Int) (r3 : Int) (w0 w : World) (hI : J155 w0 w g s0_0 s0_1 s0_2) (hB : Below w0.heap.size w0 w) (hr1 : Kd.C Kd.string w A1 l1.length l1) (hc1 : l1.length ≤ c1) (hf1 : ∀ ad,A1 = some ad → 0 < l1.length → ad.block ≠ g) (h : spec_l1Str.f s0_0 s0_1 s0_2 l1 = some (r1,r2,r3)) :
  Calls Try.prog 124 #[.pointer (some ⟨g,0,none⟩),.slice A1 l1.length c1] w fun e w'=>e = .returned (.string r1) ∧ J155 w0 w' g s0_0 r2 r3 ∧ Below w0.heap.size w0 w' ∧ KeepBut w w' g none:=by
 have HR1:=aM_ hr1
 have HC1:=aM_ hc1
 clear hr1 hc1
 have HI0:=aM_ hI
 have HK:=aM_ (KeepBut.refl w g none)
 have HL:=aM_ hB.size
 clear hI
 have HW0:=aM_ hB.size
 have HB:=aM_ hB
 clear hB
 have H : ((spec_l1Below.f s0_0 s0_1 s0_2 (l1.length : Int)).bind fun bt315=>(if 0 ≤ bt315.1 then (if bt315.1 < (l1.length : Int) then (some (rdOf ByteArray.empty l1 bt315.1,bt315.2.1,bt315.2.2)) else (none)) else (none))) = some (r1,r2,r3):=h
 clear h
 replace H:=oB_ H
 obtain ⟨⟨t315,t316,t317⟩,A30,H⟩:=H
 replace H : (if 0 ≤ t315 then (if t315 < (l1.length : Int) then (some (rdOf ByteArray.empty l1 t315,t316,t317)) else (none)) else (none)) = some (r1,r2,r3):=H
 have A3:=aM_ A30
 clear A30
 by_cases c4 : 0 ≤ t315
 ·rw [if_pos c4] at H
  have c4b0 : decide (0 ≤ t315) = true:=decide_eq_true c4
  clear c4
  by_cases c5 : t315 < (l1.length : Int)
  ·rw [if_pos c5] at H
   have c5b0 : decide (t315 < (l1.length : Int)) = true:=decide_eq_true c5
   clear c5
   simp only [Option.some.injEq,Prod.mk.injEq] at H
   obtain ⟨rfl,rfl,rfl⟩:=H
   go_enter Try.func124,Try.ntmps124
   go_wp2_with (first | ((with_reducible refine gate_callee (f:=125) rfl ?_);refine goesL_ (some 9) rfl rfl Try.func125 (by kernel_rfl) rfl #[.pointer (some ⟨g,0,none⟩),.int .i64 (l1.length : Int)] rfl (by (try simp only [mA_,mC_,mN_]);first | done | rfl | (simp only [lD_,lT_];rfl)) ?_;(with_reducible refine (spec_l1Below.calls g s0_0 s0_1 s0_2 (l1.length : Int) t315 t316 t317 w0 _ ?side1 ?side2 A3.out).mono ?_);(case side1=>repeat first | exact J155.z HI0 | apply J155.set_1 | apply J155.set_2 | refine J155.y ?_);(case side2=>have e0_:=aM_ (J155.ge HI0.out);exact bZ_ HB);rintro e w6 ⟨rfl,hi,hb,hk⟩;refine ⟨_,rfl,?_⟩;have n0_:=aM_ (KeepBut.trans (by exact eZ_ HK) hk (.inl rfl));have n1_:=aM_ (hb);have n2_:=aM_ (hi);clear HK HB HI0;have HK:=n0_;have HB:=n1_;have HI0:=n2_;clear n0_ n1_ n2_ hb hk hi;have p318 : 0 ≤ (t315 : Int):=oT_ (by first | (with_reducible assumption) | assumption);have q318 : t315 < (l1.length : Int):=oT_ (by first | (with_reducible assumption) | assumption);obtain ⟨ad318,e318,hx318_0⟩:=Kd.at_string HR1.out t315 p318 q318;cases e318;replace hx318_0:=keep_cell HK.out hx318_0 (by first | (rw [add_block];exact hf1 _ rfl (by omega)) | exact hf1 _ rfl (by omega) | exact hf1 ad318 rfl (by omega));replace p318:=eq_true p318;replace q318:=eq_true q318))
   go_ret
   exact ⟨by first | rfl | (simp [errW_none,errW_some] <;> rfl) | (simp [*, errW_none,errW_some] <;> rfl),by repeat first | exact J155.z HI0 | apply J155.set_1 | apply J155.set_2 | refine J155.y ?_,by have e0_:=aM_ (J155.ge HI0.out);exact bZ_ HB,by exact eZ_ HK⟩
  ·rw [if_neg c5] at H
   exact absurd H (by simp)
 ·rw [if_neg c4] at H
  exact absurd H (by simp)
end Go.Proofs.Ytllgmgpfdnofmaa.PFnNodes
