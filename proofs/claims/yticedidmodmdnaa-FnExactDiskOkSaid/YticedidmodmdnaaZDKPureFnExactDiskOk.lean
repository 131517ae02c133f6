/- The law FnExactDiskOk in plain words: what the printed functions answer, and that the two agree. Its conditions: the bounds that memory sets. -/
import Derived.Test.YticedidmodmdnaaZDKPFnExactDiskOkx7
import Derived.Test.YticedidmodmdnaaZDKKit
import Derived.Test.YticedidmodmdnaaZDKKitE
namespace Go.Proofs.Yticedidmodmdnaa.Pure
open Go.RowKit Go.Proofs.Yticedidmodmdnaa.PFnExactDiskOk Go.Proofs.YticedidmodmdnaaW.PrintWords Go.Proofs.YticedidmodmdnaaW.PrintLast Go.Proofs.YticedidmodmdnaaW.PrintMore Go.Proofs.Yticedidmodmdnaa.Kit Go.Proofs.Yticedidmodmdnaa.KitE

theorem laws_szFaultS_eq (l : List (S82)) (left : Int) (h0 : 0 ≤ left) (h1 : left ≤ 1048576) (hs : l.length ≤ 140737488351232) : laws_szFaultS.f l left = some (szL left [l.length]) := by
  unfold laws_szFaultS.f
  simp only [szL]
  rw [wrap_id (by omega) (by omega)]
  split <;> rfl

theorem laws_szByteS_eq (l : List Int) (left : Int) (h0 : 0 ≤ left) (h1 : left ≤ 1048576) (hs : l.length ≤ 140737488351232) : laws_szByteS.f l left = some (szL left [l.length]) := by
  unfold laws_szByteS.f
  simp only [szL]
  rw [wrap_id (by omega) (by omega)]
  split <;> rfl

def szGood (r left : Int) : Prop := -1 ≤ r ∧ r ≤ left
theorem szL_one {left : Int} {n : Nat} (h : 0 ≤ left) : szGood (szL left [n]) left ∧ (¬ szL left [n] < 0 → (n : Int) ≤ left) := by
  simp only [szL, szGood]
  split <;> omega
theorem laws_szByteSS_evp (l : List (List Int)) (left : Int) (h0 : 0 ≤ left) (h1 : left ≤ 1048576) (hs : l.length ≤ 140737488351232) (he : ∀ x ∈ l, x.length ≤ 140737488351232) :
    EvP (fun k => laws_szByteSS.f k l left) (fun r => -1 ≤ r ∧ r ≤ 1048576 ∧ (0 ≤ r → l.length ≤ 1048576 ∧ ∀ x ∈ l, x.length ≤ 1048576)) := by
  unfold laws_szByteSS.f
  rw [wrap_id (by omega) (by omega)]
  refine EvP.ite (fun _ => EvP.some_ ⟨by omega, by omega, fun h => by omega⟩) (fun g => ?_)
  refine EvP.list (fun k s i => laws_szByteSS.l0 k l s i) l (fun s i => 0 ≤ s ∧ s ≤ 1048576 ∧ ∀ x ∈ l.take i, x.length ≤ 1048576) ?_ ?_ l.length 0 _ (by omega) ⟨by omega, by omega, by simp⟩
  · intro s hI
    have h3 := hI.2.2
    rw [List.take_length] at h3
    exact EvP.step (fun k => by rw [laws_szByteSS.l0]) (EvP.neg (by omega) (EvP.some_ ⟨by omega, by omega, fun _ => ⟨by omega, h3⟩⟩))
  · intro s i x hI hi hx ih
    have hm := he x (List.mem_of_getElem? hx)
    refine EvP.step (fun k => by rw [laws_szByteSS.l0]) (EvP.pos (by omega) (EvP.pos (by omega) ?_))
    rw [wrap_succ (by omega), show rd_L3 l (i : Int) = x from getD_at hx]
    have z := szL_one (left := s) (n := x.length) hI.1
    refine EvP.bind (P := fun a => a = szL s [x.length]) (EvP.ev (ev_c (laws_szByteS_eq x s hI.1 hI.2.1 hm)) rfl) (fun a ha => ?_)
    rw [ha]
    refine EvP.ite (fun _ => EvP.some_ ⟨by omega, by omega, fun h => by omega⟩) (fun c => ?_)
    have z1 := z.1
    have z2 := z.2 c
    unfold szGood at z1
    exact ih _ ⟨by omega, by omega, take_snoc hx hI.2.2 (by omega)⟩

theorem laws_szWrite_eq (a : Int) (l : List Int) (left : Int) (h0 : 0 ≤ left) (h1 : left ≤ 1048576) (hs : l.length ≤ 140737488351232) : laws_szWrite.f a l left = some (szL left [l.length]) := by
  unfold laws_szWrite.f
  rw [laws_szByteS_eq l left h0 h1 hs]
  have z := szL_one (left := left) (n := l.length) h0
  have z1 := z.1
  unfold szGood at z1
  show (if szL left [l.length] < 0 then some (-1) else some (szL left [l.length])) = _
  split
  · congr 1; omega
  · rfl

theorem laws_szWriteS_evp (l : List (S111)) (left : Int) (h0 : 0 ≤ left) (h1 : left ≤ 1048576) (hs : l.length ≤ 140737488351232) (he : ∀ x ∈ l, x.f1.length ≤ 140737488351232) :
    EvP (fun k => laws_szWriteS.f k l left) (fun r => -1 ≤ r ∧ r ≤ 1048576 ∧ (0 ≤ r → l.length ≤ 1048576 ∧ ∀ x ∈ l, x.f1.length ≤ 1048576)) := by
  unfold laws_szWriteS.f
  rw [wrap_id (by omega) (by omega)]
  refine EvP.ite (fun _ => EvP.some_ ⟨by omega, by omega, fun h => by omega⟩) (fun g => ?_)
  refine EvP.list (fun k s i => laws_szWriteS.l0 k l s i) l (fun s i => 0 ≤ s ∧ s ≤ 1048576 ∧ ∀ x ∈ l.take i, x.f1.length ≤ 1048576) ?_ ?_ l.length 0 _ (by omega) ⟨by omega, by omega, by simp⟩
  · intro s hI
    have h3 := hI.2.2
    rw [List.take_length] at h3
    exact EvP.step (fun k => by rw [laws_szWriteS.l0]) (EvP.neg (by omega) (EvP.some_ ⟨by omega, by omega, fun _ => ⟨by omega, h3⟩⟩))
  · intro s i x hI hi hx ih
    have hm := he x (List.mem_of_getElem? hx)
    refine EvP.step (fun k => by rw [laws_szWriteS.l0]) (EvP.pos (by omega) (EvP.pos (by omega) ?_))
    rw [wrap_succ (by omega), show rd_T111 l (i : Int) = x from getD_at hx]
    have z := szL_one (left := s) (n := x.f1.length) hI.1
    refine EvP.bind (P := fun a => a = szL s [x.f1.length]) (EvP.ev (ev_c (laws_szWrite_eq x.f0 x.f1 s hI.1 hI.2.1 hm)) rfl) (fun a ha => ?_)
    rw [ha]
    refine EvP.ite (fun _ => EvP.some_ ⟨by omega, by omega, fun h => by omega⟩) (fun c => ?_)
    have z1 := z.1
    have z2 := z.2 c
    unfold szGood at z1
    exact ih _ ⟨by omega, by omega, take_snoc hx hI.2.2 (by omega)⟩

def diskSmall (ss : List (List Int)) (ws : List (S111)) (fs : List (S82)) : Prop := (ss.length ≤ 1048576 ∧ ∀ x ∈ ss, x.length ≤ 1048576) ∧ (ws.length ≤ 1048576 ∧ ∀ x ∈ ws, x.f1.length ≤ 1048576) ∧ fs.length ≤ 1048576
theorem laws_szDisk_evp (ss : List (List Int)) (ws : List (S111)) (p : Int) (fs : List (S82)) (on : Bool) (left : Int) (h0 : 0 ≤ left) (h1 : left ≤ 1048576) (hs : ss.length ≤ 140737488351232 ∧ ∀ x ∈ ss, x.length ≤ 140737488351232) (hw : ws.length ≤ 140737488351232 ∧ ∀ x ∈ ws, x.f1.length ≤ 140737488351232) (hf : fs.length ≤ 140737488351232) :
    EvP (fun k => laws_szDisk.f k ss ws p fs on left) (fun r => 0 ≤ r → diskSmall ss ws fs) := by
  unfold laws_szDisk.f
  refine EvP.bind (laws_szByteSS_evp ss left h0 h1 hs.1 hs.2) (fun a ha => EvP.ite (fun _ => EvP.some_ (fun h => by omega)) (fun c => ?_))
  refine EvP.bind (laws_szWriteS_evp ws a (by omega) ha.2.1 hw.1 hw.2) (fun b hb => EvP.ite (fun _ => EvP.some_ (fun h => by omega)) (fun d => ?_))
  have z := szL_one (left := b) (n := fs.length) (by omega)
  refine EvP.bind (P := fun e => e = szL b [fs.length]) (EvP.ev (ev_c (laws_szFaultS_eq fs b (by omega) hb.2.1 hf)) rfl) (fun e he => ?_)
  rw [he]
  refine EvP.ite (fun _ => EvP.some_ (fun h => by omega)) (fun g => EvP.some_ (fun _ => ?_))
  have := z.2 g
  have := hb.2.1
  exact ⟨ha.2.2 (by omega), hb.2.2 (by omega), by omega⟩

theorem spec_l1In_eq (a b c : Int) : spec_l1In.f a b c = some (inB a b c) := by unfold spec_l1In.f inB; split <;> rfl

def fOk (x : S78) : Bool := if inB x.f0 0 100000 = true then (if inB x.f1 0 1048575 = true then inB x.f2 0 256 else false) else false
def faultsM : Option (S78) → List (S78) → Bool
  | _, [] => true
  | p, x :: r => if fOk x = true then (match p with
    | none => faultsM (some x) r
    | some y => if y.f0 ≥ x.f0 then false else faultsM (some x) r) else false
def faultsOkM (fs : List (S78)) : Bool := faultsM none fs && decide ((fs.length : Int) ≤ 20)
def secOk (x : List Int) : Bool := decide ((x.length : Int) ≤ 256)
def wrOk (n : Int) (w : S58) : Bool := inB w.f0 0 (n - 1) && decide ((w.f1.length : Int) ≤ 256)
def diskOkM (ss : List (List Int)) (ws : List (S58)) (p : Int) (fs : List (S78)) (on : Bool) : Bool :=
  ss.all secOk && ws.all (wrOk ss.length) && inB ss.length 4 48 && decide ((ws.length : Int) ≤ 60) && inB p 0 100000 && faultsOkM fs && (if on = true then decide (ws.length = 0) else true)

theorem spec_l12Faults_ev (fs : List (S78)) (hk : fs.length ≤ 1048576) : Ev (fun k => spec_l12Faults.f k fs) (faultsOkM fs) := by
  have h := ev_listI0 (fun k (_ : Unit) i => spec_l12Faults.l0 k fs i) fs (fun _ _ => True) (fun _ i r => faultsM (if i = 0 then none else fs[i - 1]?) r && decide ((fs.length : Int) ≤ 20)) () trivial ?_ ?_
  · exact h
  · intro s hI
    refine Ev.step (fun k => by rw [spec_l12Faults.l0]) ?_
    refine ev_neg (by omega) (ev_some ?_)
    simp [faultsM]
  · intro s i x r hI hi hx hd ih
    have ih := ih () trivial
    rw [if_neg (by omega), show i + 1 - 1 = i by omega, hx] at ih
    refine Ev.step (fun k => by rw [spec_l12Faults.l0]) ?_
    refine ev_pos (by omega) (ev_pos (by omega) ?_)
    rw [wrap_succ (by omega), show rd_T78 fs (i : Int) = x from getD_at hx]
    unfold faultsM fOk
    refine Ev.bind (ev_c (spec_l1In_eq _ _ _)) (ev_ite (fun c1 => ?_) (fun c1 => by simp only [if_neg c1]; exact ev_some (by simp)))
    refine Ev.bind (ev_c (spec_l1In_eq _ _ _)) (ev_ite (fun c2 => ?_) (fun c2 => by simp only [if_pos c1, if_neg c2]; exact ev_some (by simp)))
    refine Ev.bind (ev_c (spec_l1In_eq _ _ _)) (ev_ite (fun c3 => ?_) (fun c3 => by simp only [if_pos c1, if_pos c2, if_neg c3]; exact ev_some (by simp)))
    simp only [if_pos c1, if_pos c2, if_pos c3]
    by_cases h0 : i = 0
    · subst h0
      exact ev_neg (by omega) ih
    · obtain ⟨y, hy⟩ : ∃ y, fs[i - 1]? = some y := ⟨_, List.getElem?_eq_getElem (by omega)⟩
      rw [if_neg h0, hy]
      have e : wrap64 ((i : Int) - 1) = ((i - 1 : Nat) : Int) := by rw [wrap_id (by omega) (by omega)]; omega
      refine ev_pos (by omega) ?_
      rw [e]
      refine ev_pos (by omega) (ev_pos (by omega) ?_)
      rw [show rd_T78 fs ((i - 1 : Nat) : Int) = y from getD_at hy]
      exact ev_ite (fun c => by simp only [if_pos c]; exact ev_some (by simp)) (fun c => by simp only [if_neg c]; exact ih)

theorem all_if {β : Type} {l : List β} {p : β → Bool} {e r : Bool} (h : r = (l.all p && e)) : (if l.all p = true then e else false) = r := by
  rw [h]; cases l.all p <;> simp
theorem spec_DiskOk_ev (ss : List (List Int)) (ws : List (S58)) (p : Int) (fs : List (S78)) (on : Bool) (h1 : ss.length ≤ 1048576) (h2 : ws.length ≤ 1048576) (h3 : fs.length ≤ 1048576) : Ev (fun k => spec_DiskOk.f k ss ws p fs on) (diskOkM ss ws p fs on) := by
  unfold spec_DiskOk.f
  refine ev_eq (ev_all (fun k i => spec_DiskOk.l0 k i ss ws p fs on) ss secOk (ws.all (wrOk ss.length) && (inB ss.length 4 48 && (decide ((ws.length : Int) ≤ 60) && (inB p 0 100000 && (faultsOkM fs && (if on = true then decide (ws.length = 0) else true)))))) ?_ ?_) (all_if (by unfold diskOkM; simp only [Bool.and_assoc]))
  · refine Ev.step (fun k => by rw [spec_DiskOk.l0]) (ev_neg (by omega) ?_)
    refine ev_eq (ev_all (fun k i => spec_DiskOk.l1 k i ss ws p fs on) ws (wrOk ss.length) (inB ss.length 4 48 && (decide ((ws.length : Int) ≤ 60) && (inB p 0 100000 && (faultsOkM fs && (if on = true then decide (ws.length = 0) else true))))) ?_ ?_) (all_if rfl)
    · refine Ev.step (fun k => by rw [spec_DiskOk.l1]) (ev_neg (by omega) ?_)
      refine Ev.bind (ev_c (spec_l1In_eq _ _ _)) (ev_ite (fun c1 => ?_) (fun c1 => ev_some (by rw [Bool.eq_false_iff.2 c1]; rfl)))
      rw [c1, Bool.true_and]
      refine ev_ite (fun c2 => ?_) (fun c2 => ev_some (by rw [decide_eq_false c2]; rfl))
      rw [decide_eq_true c2, Bool.true_and]
      refine Ev.bind (ev_c (spec_l1In_eq _ _ _)) (ev_ite (fun c3 => ?_) (fun c3 => ev_some (by rw [Bool.eq_false_iff.2 c3]; rfl)))
      rw [c3, Bool.true_and]
      refine Ev.bind (spec_l12Faults_ev fs h3) (ev_ite (fun c4 => ?_) (fun c4 => ev_some (by rw [Bool.eq_false_iff.2 c4]; rfl)))
      rw [c4, Bool.true_and]
      refine ev_ite (fun c5 => ?_) (fun c5 => ev_some (by rw [if_neg c5]))
      rw [if_pos c5]
      refine ev_some ?_
      rw [Bool.eq_iff_iff]
      simp
    · intro i x r hi hx ih
      refine Ev.step (fun k => by rw [spec_DiskOk.l1]) (ev_pos (by omega) (ev_pos (by omega) ?_))
      rw [wrap_succ (by omega), show rd_T58 ws (i : Int) = x from getD_at hx, wrap_id (x := (ss.length : Int) - 1) (by omega) (by omega)]
      unfold wrOk
      refine Ev.bind (ev_c (spec_l1In_eq _ _ _)) (ev_ite (fun c1 => ?_) (fun c1 => ev_some (by rw [Bool.eq_false_iff.2 c1]; rfl)))
      rw [c1, Bool.true_and]
      refine ev_ite (fun c2 => ev_some (by rw [if_neg (by rw [decide_eq_true_iff]; omega)])) (fun c2 => ?_)
      rw [if_pos (decide_eq_true (by omega))]
      exact ih
  · intro i x r hi hx ih
    refine Ev.step (fun k => by rw [spec_DiskOk.l0]) (ev_pos (by omega) (ev_pos (by omega) ?_))
    rw [wrap_succ (by omega), show rd_L3 ss (i : Int) = x from getD_at hx]
    unfold secOk
    refine ev_ite (fun c2 => ev_some (by rw [if_neg (by rw [decide_eq_true_iff]; omega)])) (fun c2 => ?_)
    rw [if_pos (decide_eq_true (by omega))]
    exact ih

def cFault (x : S82) : S78 := ⟨x.f0, x.f1, x.f2⟩
theorem laws_toFaultS_ev (l : List (S82)) (hs : l.length ≤ 1048576) : Ev (fun k => laws_toFaultS.f k l) (l.map cFault) := by
  unfold laws_toFaultS.f
  refine ev_pos (by omega) (ev_pos (by omega) ?_)
  refine ev_fill (fun k s i => laws_toFaultS.l0 k l s i) l cFault ?_ ?_ _ (by simp)
  · intro s hI
    refine Ev.step (fun k => by rw [laws_toFaultS.l0]) ?_
    exact ev_neg (by omega) (ev_some rfl)
  · intro s i x r hI hi hx ih
    refine Ev.step (fun k => by rw [laws_toFaultS.l0]) ?_
    refine ev_pos (by omega) (ev_pos (by omega) ?_)
    rw [wrap_succ (by omega), show rd_T82 l (i : Int) = x from getD_at hx]
    refine Ev.bind (ev_c (show laws_toFault.f x.f0 x.f1 x.f2 = some (x.f0, x.f1, x.f2) from rfl)) ?_
    exact ev_pos (by omega) ih

theorem laws_toByteS_ev (l : List Int) (hs : l.length ≤ 1048576) : Ev (fun k => laws_toByteS.f k l) l := by
  unfold laws_toByteS.f
  refine ev_pos (by omega) (ev_pos (by omega) ?_)
  refine ev_eq (ev_fill (fun k s i => laws_toByteS.l0 k l s i) l id ?_ ?_ _ (by simp)) (List.map_id l)
  · intro s hI
    refine Ev.step (fun k => by rw [laws_toByteS.l0]) ?_
    exact ev_neg (by omega) (ev_some rfl)
  · intro s i x r hI hi hx ih
    refine Ev.step (fun k => by rw [laws_toByteS.l0]) ?_
    refine ev_pos (by omega) (ev_pos (by omega) (ev_pos (by omega) ?_))
    rw [wrap_succ (by omega), show rd l (i : Int) = x from getD_at hx]
    exact ih

theorem laws_toByteSS_ev (l : List (List Int)) (hs : l.length ≤ 1048576) (he : ∀ x ∈ l, x.length ≤ 1048576) : Ev (fun k => laws_toByteSS.f k l) l := by
  unfold laws_toByteSS.f
  refine ev_pos (by omega) (ev_pos (by omega) ?_)
  refine ev_eq (ev_fill (fun k s i => laws_toByteSS.l0 k l s i) l id ?_ ?_ _ (by simp)) (List.map_id l)
  · intro s hI
    refine Ev.step (fun k => by rw [laws_toByteSS.l0]) ?_
    exact ev_neg (by omega) (ev_some rfl)
  · intro s i x r hI hi hx ih
    refine Ev.step (fun k => by rw [laws_toByteSS.l0]) ?_
    refine ev_pos (by omega) (ev_pos (by omega) ?_)
    rw [wrap_succ (by omega), show rd_L3 l (i : Int) = x from getD_at hx]
    exact Ev.bind (laws_toByteS_ev x (he x (List.mem_of_getElem? hx))) (ev_pos (by omega) ih)

def cWrite (x : S111) : S58 := ⟨x.f0, x.f1⟩
theorem laws_toWriteS_ev (l : List (S111)) (hs : l.length ≤ 1048576) (he : ∀ x ∈ l, x.f1.length ≤ 1048576) : Ev (fun k => laws_toWriteS.f k l) (l.map cWrite) := by
  unfold laws_toWriteS.f
  refine ev_pos (by omega) (ev_pos (by omega) ?_)
  refine ev_fill (fun k s i => laws_toWriteS.l0 k l s i) l cWrite ?_ ?_ _ (by simp)
  · intro s hI
    refine Ev.step (fun k => by rw [laws_toWriteS.l0]) ?_
    exact ev_neg (by omega) (ev_some rfl)
  · intro s i x r hI hi hx ih
    refine Ev.step (fun k => by rw [laws_toWriteS.l0]) ?_
    refine ev_pos (by omega) (ev_pos (by omega) ?_)
    rw [wrap_succ (by omega), show rd_T111 l (i : Int) = x from getD_at hx]
    have e : Ev (fun k => laws_toWrite.f k x.f0 x.f1) (x.f0, x.f1) := by
      unfold laws_toWrite.f
      exact Ev.bind (laws_toByteS_ev x.f1 (he x (List.mem_of_getElem? hx))) (ev_some rfl)
    exact Ev.bind e (ev_pos (by omega) ih)

theorem laws_toDisk_ev (ss : List (List Int)) (ws : List (S111)) (p : Int) (fs : List (S82)) (on : Bool) (h : diskSmall ss ws fs) : Ev (fun k => laws_toDisk.f k ss ws p fs on) (ss, ws.map cWrite, p, fs.map cFault, on) := by
  unfold laws_toDisk.f
  exact Ev.bind (laws_toByteSS_ev ss h.1.1 h.1.2) (Ev.bind (laws_toWriteS_ev ws h.2.1.1 h.2.1.2) (Ev.bind (laws_toFaultS_ev fs h.2.2) (ev_some rfl)))

theorem impl_in_eq (a b c : Int) : impl_in.f a b c = some (inB a b c) := by unfold impl_in.f inB; split <;> rfl

theorem impl_DiskOk_ev (ss : List (List Int)) (ws : List (S58)) (p : Int) (fs : List (S78)) (on : Bool) (h1 : ss.length ≤ 1048576) (h2 : ws.length ≤ 1048576) (h3 : fs.length ≤ 1048576) : Ev (fun k => impl_DiskOk.f k ss ws p fs on) (diskOkM ss ws p fs on) := by
  have e2 : Ev (fun k => impl_DiskOk.l2 k fs (fs.length : Int) 0 ss ws p fs on) (faultsM none fs) := by
    have h := ev_listI0 (fun k (_ : Unit) i => impl_DiskOk.l2 k fs (fs.length : Int) i ss ws p fs on) fs (fun _ _ => True) (fun _ i r => faultsM (if i = 0 then none else fs[i - 1]?) r) () trivial ?_ ?_
    · exact h
    · intro s hI
      refine Ev.step (fun k => by rw [impl_DiskOk.l2]) ?_; exact ev_neg (by omega) (ev_some (by simp [faultsM]))
    · intro s i x r hI hi hx hd ih
      have ih := ih () trivial
      rw [if_neg (by omega), show i + 1 - 1 = i by omega, hx] at ih
      refine Ev.step (fun k => by rw [impl_DiskOk.l2]) ?_
      refine ev_pos (by omega) (ev_pos (by omega) (ev_pos (by omega) ?_))
      rw [wrap_succ (by omega), show rd_T78 fs (i : Int) = x from getD_at hx]
      unfold faultsM fOk
      refine Ev.bind (ev_c (impl_in_eq _ _ _)) (ev_ite (fun c1 => ?_) (fun c1 => by simp only [if_neg c1]; exact ev_some (by simp)))
      refine Ev.bind (ev_c (impl_in_eq _ _ _)) (ev_ite (fun c2 => ?_) (fun c2 => by simp only [if_pos c1, if_neg c2]; exact ev_some (by simp)))
      refine Ev.bind (ev_c (impl_in_eq _ _ _)) (ev_ite (fun c3 => ?_) (fun c3 => by simp only [if_pos c1, if_pos c2, if_neg c3]; exact ev_some (by simp)))
      simp only [if_pos c1, if_pos c2, if_pos c3]
      by_cases h0 : i = 0
      · subst h0
        exact ev_neg (by omega) ih
      · obtain ⟨y, hy⟩ : ∃ y, fs[i - 1]? = some y := ⟨_, List.getElem?_eq_getElem (by omega)⟩
        rw [if_neg h0, hy]
        have e : wrap64 ((i : Int) - 1) = ((i - 1 : Nat) : Int) := by rw [wrap_id (by omega) (by omega)]; omega
        refine ev_pos (by omega) ?_
        rw [e]
        refine ev_pos (by omega) (ev_pos (by omega) ?_)
        rw [show rd_T78 fs ((i - 1 : Nat) : Int) = y from getD_at hy]
        exact ev_ite (fun c => by simp only [if_pos c]; exact ev_some (by simp)) (fun c => by simp only [if_neg c]; exact ih)
  have e1 : Ev (fun k => impl_DiskOk.l1 k ws (ws.length : Int) 0 ss ws p fs on) (ws.all (wrOk ss.length) && faultsM none fs) := by
    refine ev_eq (ev_all (fun k i => impl_DiskOk.l1 k ws (ws.length : Int) i ss ws p fs on) ws (wrOk ss.length) (faultsM none fs) ?_ ?_) (by cases ws.all (wrOk ss.length) <;> simp)
    · refine Ev.step (fun k => by rw [impl_DiskOk.l1]) ?_; exact ev_neg (by omega) e2
    · intro i x r hi hx ih
      refine Ev.step (fun k => by rw [impl_DiskOk.l1]) ?_; refine ev_pos (by omega) (ev_pos (by omega) (ev_pos (by omega) ?_))
      rw [wrap_succ (by omega), show rd_T58 ws (i : Int) = x from getD_at hx, wrap_id (x := (ss.length : Int) - 1) (by omega) (by omega)]
      unfold wrOk
      refine Ev.bind (ev_c (impl_in_eq _ _ _)) (ev_ite (fun c1 => ?_) (fun c1 => ev_some (by rw [Bool.eq_false_iff.2 c1]; rfl)))
      rw [c1, Bool.true_and]
      refine ev_ite (fun c2 => ev_some (by rw [if_neg (by rw [decide_eq_true_iff]; omega)])) (fun c2 => ?_)
      rw [if_pos (decide_eq_true (by omega))]
      exact ih
  have e0 : Ev (fun k => impl_DiskOk.l0 k ss (ss.length : Int) 0 ss ws p fs on) (ss.all secOk && (ws.all (wrOk ss.length) && faultsM none fs)) := by
    refine ev_eq (ev_all (fun k i => impl_DiskOk.l0 k ss (ss.length : Int) i ss ws p fs on) ss secOk (ws.all (wrOk ss.length) && faultsM none fs) ?_ ?_) (by cases ss.all secOk <;> simp)
    · refine Ev.step (fun k => by rw [impl_DiskOk.l0]) ?_; exact ev_neg (by omega) e1
    · intro i x r hi hx ih
      refine Ev.step (fun k => by rw [impl_DiskOk.l0]) ?_; refine ev_pos (by omega) (ev_pos (by omega) (ev_pos (by omega) ?_))
      rw [wrap_succ (by omega), show rd_L3 ss (i : Int) = x from getD_at hx]
      unfold secOk
      refine ev_ite (fun c2 => ev_some (by rw [if_neg (by rw [decide_eq_true_iff]; omega)])) (fun c2 => ?_)
      rw [if_pos (decide_eq_true (by omega))]
      exact ih
  have jt : Ev (fun k => impl_DiskOk.j0 k true ss ws p fs on) false := by refine Ev.step (fun k => by rw [impl_DiskOk.j0]) ?_; exact ev_pos rfl (ev_some rfl)
  have jf : Ev (fun k => impl_DiskOk.j0 k false ss ws p fs on) (ss.all secOk && (ws.all (wrOk ss.length) && faultsM none fs)) := by refine Ev.step (fun k => by rw [impl_DiskOk.j0]) ?_; exact ev_neg (by simp) e0
  unfold impl_DiskOk.f
  refine Ev.bind (ev_c (impl_in_eq _ _ _)) (ev_ite (fun c1 => ?_) (fun c1 => ev_eq jt ?_))
  · refine ev_ite (fun c2 => ev_eq jt ?_) (fun c2 => ?_)
    · unfold diskOkM; rw [decide_eq_false (show ¬ (ws.length : Int) ≤ 60 by omega)]; simp
    · refine Ev.bind (ev_c (impl_in_eq _ _ _)) (ev_ite (fun c3 => ?_) (fun c3 => ev_eq jt ?_))
      · refine ev_ite (fun c4 => ev_eq jt ?_) (fun c4 => ?_)
        · unfold diskOkM faultsOkM; rw [decide_eq_false (show ¬ (fs.length : Int) ≤ 20 by omega)]; simp
        · have e : diskOkM ss ws p fs on = (ss.all secOk && (ws.all (wrOk ss.length) && faultsM none fs) && (if on = true then decide (ws.length = 0) else true)) := by
            unfold diskOkM faultsOkM
            rw [c1, c3, decide_eq_true (show (ws.length : Int) ≤ 60 by omega), decide_eq_true (show (fs.length : Int) ≤ 20 by omega)]
            simp [Bool.and_assoc]
          rw [e]
          refine ev_ite (fun c5 => ?_) (fun c5 => ?_)
          · rw [if_pos c5]
            by_cases c6 : (ws.length : Int) > 0
            · rw [decide_eq_true c6, decide_eq_false (show ¬ ws.length = 0 by omega), Bool.and_false]; exact jt
            · rw [decide_eq_false c6, decide_eq_true (show ws.length = 0 by omega), Bool.and_true]; exact jf
          · rw [if_neg c5, Bool.and_true]; exact jf
      · unfold diskOkM; rw [Bool.eq_false_iff.2 c3]; simp
  · unfold diskOkM; rw [Bool.eq_false_iff.2 c1]; simp

theorem laws_eqFaultS_self (l : List (S78)) (hs : l.length ≤ 1048576) : Ev (fun k => laws_eqFaultS.f k l l) true := by
  unfold laws_eqFaultS.f
  refine ev_pos rfl ?_
  refine ev_pass (fun k i => laws_eqFaultS.l0 k l l i) l true ?_ ?_
  · exact Ev.step (fun k => by rw [laws_eqFaultS.l0]) (ev_neg (by omega) (ev_some rfl))
  · intro i x hi hx ih
    refine Ev.step (fun k => by rw [laws_eqFaultS.l0]) ?_
    refine ev_pos (by omega) (ev_pos (by omega) (ev_pos (by omega) ?_))
    rw [wrap_succ (by omega)]
    exact Ev.bind (ev_c (show laws_eqFault.f _ _ _ _ _ _ = some true from by unfold laws_eqFault.f; simp)) (ev_pos rfl ih)

theorem laws_eqByteS_self (l : List Int) (hs : l.length ≤ 281474976710656) : Ev (fun k => laws_eqByteS.f k l l) true := by
  unfold laws_eqByteS.f
  refine ev_pos rfl ?_
  refine ev_pass (fun k i => laws_eqByteS.l0 k l l i) l true ?_ ?_
  · refine Ev.step (fun k => by rw [laws_eqByteS.l0]) ?_
    exact ev_neg (by omega) (ev_some rfl)
  · intro i x hi hx ih
    refine Ev.step (fun k => by rw [laws_eqByteS.l0]) ?_
    refine ev_pos (by omega) (ev_pos (by omega) (ev_pos (by omega) (ev_pos rfl ?_)))
    rw [wrap_succ (by omega)]
    exact ih

theorem laws_eqByteSS_self (l : List (List Int)) (hs : l.length ≤ 1048576) (he : ∀ x ∈ l, x.length ≤ 1048576) : Ev (fun k => laws_eqByteSS.f k l l) true := by
  unfold laws_eqByteSS.f
  refine ev_pos rfl ?_
  refine ev_pass (fun k i => laws_eqByteSS.l0 k l l i) l true ?_ ?_
  · exact Ev.step (fun k => by rw [laws_eqByteSS.l0]) (ev_neg (by omega) (ev_some rfl))
  · intro i x hi hx ih
    refine Ev.step (fun k => by rw [laws_eqByteSS.l0]) ?_
    refine ev_pos (by omega) (ev_pos (by omega) (ev_pos (by omega) ?_))
    have hm := he x (List.mem_of_getElem? hx)
    rw [wrap_succ (by omega), show rd_L3 l (i : Int) = x from getD_at hx]
    exact Ev.bind (laws_eqByteS_self x (by omega)) (ev_pos rfl ih)

theorem laws_eqWriteS_self (l : List (S58)) (hs : l.length ≤ 1048576) (he : ∀ x ∈ l, x.f1.length ≤ 1048576) : Ev (fun k => laws_eqWriteS.f k l l) true := by
  unfold laws_eqWriteS.f
  refine ev_pos rfl ?_
  refine ev_pass (fun k i => laws_eqWriteS.l0 k l l i) l true ?_ ?_
  · exact Ev.step (fun k => by rw [laws_eqWriteS.l0]) (ev_neg (by omega) (ev_some rfl))
  · intro i x hi hx ih
    refine Ev.step (fun k => by rw [laws_eqWriteS.l0]) ?_
    refine ev_pos (by omega) (ev_pos (by omega) (ev_pos (by omega) ?_))
    have hm := he x (List.mem_of_getElem? hx)
    rw [wrap_succ (by omega), show rd_T58 l (i : Int) = x from getD_at hx]
    have e : Ev (fun k => laws_eqWrite.f k x.f0 x.f1 x.f0 x.f1) true := by
      unfold laws_eqWrite.f
      exact ev_pos rfl (Ev.bind (laws_eqByteS_self x.f1 (by omega)) (ev_pos rfl (ev_some rfl)))
    exact Ev.bind e (ev_pos rfl ih)

theorem laws_eqDisk_self (ss : List (List Int)) (ws : List (S58)) (p : Int) (fs : List (S78)) (on : Bool) (h1 : ss.length ≤ 1048576 ∧ ∀ x ∈ ss, x.length ≤ 1048576) (h2 : ws.length ≤ 1048576 ∧ ∀ x ∈ ws, x.f1.length ≤ 1048576) (h3 : fs.length ≤ 1048576) : Ev (fun k => laws_eqDisk.f k ss ws p fs on ss ws p fs on) true := by
  unfold laws_eqDisk.f
  exact Ev.bind (laws_eqByteSS_self ss h1.1 h1.2) (ev_pos rfl (Ev.bind (laws_eqWriteS_self ws h2.1 h2.2) (ev_pos rfl (ev_pos rfl (Ev.bind (laws_eqFaultS_self fs h3) (ev_pos rfl (ev_neg (by simp) (ev_some rfl))))))))

theorem FnExactDiskOk : ∀ (l0_0 : List (List Int)) (l0_1 : List (S111)) (a0_2 : Int) (l0_3 : List (S82)) (a0_4 : Bool), (l0_0.length * 24 ≤ 140737488351232 ∧ ∀ e0 ∈ l0_0, (e0.length * 1 ≤ 140737488351232 ∧ ∀ e1 ∈ e0, (0 ≤ e1 ∧ e1 ≤ 255))) → (l0_1.length * 32 ≤ 140737488351232 ∧ ∀ e0 ∈ l0_1, ((-9223372036854775808 ≤ e0.f0 ∧ e0.f0 ≤ 9223372036854775807) ∧ (e0.f1.length * 1 ≤ 140737488351232 ∧ ∀ e1 ∈ e0.f1, (0 ≤ e1 ∧ e1 ≤ 255)))) → (-9223372036854775808 ≤ a0_2 ∧ a0_2 ≤ 9223372036854775807) → (l0_3.length * 24 ≤ 140737488351232 ∧ ∀ e0 ∈ l0_3, ((-9223372036854775808 ≤ e0.f0 ∧ e0.f0 ≤ 9223372036854775807) ∧ (-9223372036854775808 ≤ e0.f1 ∧ e0.f1 ≤ 9223372036854775807) ∧ (-9223372036854775808 ≤ e0.f2 ∧ e0.f2 ≤ 9223372036854775807))) → ∃ k, laws_FnExactDiskOk.f k l0_0 l0_1 a0_2 l0_3 a0_4 = some true := by
  intro ss ws p fs on hs hw hp hf
  obtain ⟨t, ht, hsm⟩ := laws_szDisk_evp ss ws p fs on 1048576 (by omega) (by omega) ⟨by omega, fun x hx => by have := (hs.2 x hx).1; omega⟩ ⟨by omega, fun x hx => by have := (hw.2 x hx).2.1; omega⟩ (by omega)
  refine Ev.rounds ?_
  unfold laws_FnExactDiskOk.f
  refine Ev.bind ht (ev_ite (fun _ => ev_some rfl) (fun h => ?_))
  have sm := hsm (by omega)
  have tt := laws_toDisk_ev ss ws p fs on sm
  have l2 : (ws.map cWrite).length ≤ 1048576 := by rw [List.length_map]; exact sm.2.1.1
  have l3 : (fs.map cFault).length ≤ 1048576 := by rw [List.length_map]; exact sm.2.2
  refine Ev.bind tt (Ev.bind (spec_DiskOk_ev ss (ws.map cWrite) p (fs.map cFault) on sm.1.1 l2 l3) ?_)
  refine Ev.bind tt (Ev.bind (impl_DiskOk_ev ss (ws.map cWrite) p (fs.map cFault) on sm.1.1 l2 l3) (ev_neg (by simp) ?_))
  refine Ev.bind tt (Ev.bind (laws_eqDisk_self ss (ws.map cWrite) p (fs.map cFault) on sm.1 ⟨l2, fun x hx => ?_⟩ l3) (ev_pos rfl (ev_some rfl)))
  obtain ⟨y, hy, rfl⟩ := List.mem_map.1 hx
  exact sm.2.1.2 y hy

end Go.Proofs.Yticedidmodmdnaa.Pure
