/- Functions of the program by their own lists and numbers. No condition beyond those in each statement. -/
import Derived.Test.YticedidmodmdnaaPvWSx2
set_option linter.unusedVariables false
namespace Go.PV.T
open Go.Proofs
theorem laws_szFaultS.sp {d : Nat} (hd : 1 ≤ d) {l : List (Int × Int × Int)} {left : Int} (h0 : 0 ≤ left) (h1 : left ≤ 1048576) (hl : l.length ≤ 140737488351232) :
    Tells (laws_szFaultS.f d (l, left)) fun r => r ≤ left ∧ (0 ≤ r → (l.length : Int) ≤ left - r) := by
  obtain ⟨d, rfl, hd⟩ := dep hd
  rw [laws_szFaultS.t_eq]
  dsimp only [laws_szFaultS.m]
  rw [wrap_id (by omega) (by omega)]
  exact tif (fun h => tl ⟨by omega, by omega⟩) fun h => tl ⟨by omega, by omega⟩
theorem laws_toFault.sp {d : Nat} (hd : 1 ≤ d) (a : Int × Int × Int) : laws_toFault.f d (a.1, a.2.1, a.2.2) = some a := by
  obtain ⟨d, rfl, hd⟩ := dep hd
  rw [laws_toFault.t_eq]
  rfl
/-- a row of the same length that is filled element by element -/
theorem fill_step {α : Type} {l s : List α} {i : Nat} (hl : s.length = l.length) (ht : s.take i = l.take i) (hi : i < l.length) : (s.set i l[i]).take (i + 1) = l.take (i + 1) := by
  rw [List.take_add_one, List.take_add_one, List.take_set_of_le (Nat.le_refl i), ht, List.getElem?_set_self (by omega)]
  simp [hi]
theorem laws_toFaultS.sp {d : Nat} (hd : 2 ≤ d) {l : List (Int × Int × Int)} (hl : l.length ≤ 1048576) : laws_toFaultS.f d l = some l := by
  obtain ⟨d, rfl, hd⟩ := dep hd
  rw [laws_toFaultS.t_eq]
  dsimp only [laws_toFaultS.m]
  refine Tells.eq (tt (by simp; omega) ?_)
  refine loop0 (laws_toFaultS.S0 d) l.length (fun st i => (l, i, st)) (fun st i => st.length = l.length ∧ st.take i = l.take i) (fun _ _ r => r = l) _ (by omega) (by simp) ?_ ?_
  · rintro L st ⟨h1, h2⟩
    dsimp only [laws_toFaultS.S0, laws_toFaultS.s0]
    refine tn (by omega) (tl ?_)
    rwa [← h1, List.take_length, h1, List.take_length] at h2
  · rintro L st i ⟨h1, h2⟩ hi ih
    dsimp only [laws_toFaultS.S0, laws_toFaultS.s0]
    refine tp (by omega) (ti hi ?_)
    rw [getD_in hi]
    refine tc (laws_toFault.sp (by omega) _) (ti (by omega) ?_)
    rw [wrap_succ (by omega)]
    have hi' : i < st.length := by omega
    have := ih (st.set i l[i]) ⟨by simp [h1], fill_step h1 h2 hi⟩
    simpa [hi'] using this
theorem in_def (a lo hi : Int) : (bif decide (a ≥ lo) then some (decide (a ≤ hi)) else some false) = some (inB a lo hi) := by
  by_cases h : lo ≤ a <;> simp [inB, h]
theorem impl_in.sp {d : Nat} (hd : 1 ≤ d) (a lo hi : Int) : impl_in.f d (a, lo, hi) = some (inB a lo hi) := by
  obtain ⟨d, rfl, hd⟩ := dep hd
  rw [impl_in.t_eq]
  exact in_def a lo hi
theorem spec_l1In.sp {d : Nat} (hd : 1 ≤ d) (a lo hi : Int) : spec_l1In.f d (a, lo, hi) = some (inB a lo hi) := by
  obtain ⟨d, rfl, hd⟩ := dep hd
  rw [spec_l1In.t_eq]
  exact in_def a lo hi
def fOk (x : Int × Int × Int) : Bool := inB x.1 0 100000 && (inB x.2.1 0 1048575 && inB x.2.2 0 256)
def faultsM : Option (Int × Int × Int) → List (Int × Int × Int) → Bool
  | _, [] => true
  | p, x :: r => fOk x && (match p with
    | none => faultsM (some x) r
    | some y => !decide (y.1 ≥ x.1) && faultsM (some x) r)
def before (fs : List (Int × Int × Int)) (i : Nat) : Option (Int × Int × Int) := if i = 0 then none else fs[i - 1]?
theorem before_succ {fs : List (Int × Int × Int)} {i : Nat} (h : i < fs.length) : before fs (i + 1) = some fs[i] := by
  unfold before
  rw [if_neg (by omega), show i + 1 - 1 = i by omega]
  simp [h]
/-- what both rounds over the faults tell -/
theorem faults_round {fs : List (Int × Int × Int)} {i : Nat} {k : Bool} {x : Option Bool} (hi : i < fs.length) (hl : fs.length ≤ 1048576) {c : Int × Int × Int → Option Bool} (hc : ∀ a lo hi, c (a, lo, hi) = some (inB a lo hi))
    (ih : Tells x (· = (faultsM (before fs (i + 1)) (fs.drop (i + 1)) && k))) (b1 b2 b3 : Bool) (h1 : b1 = true) (h2 : b2 = true) (h3 : b3 = true) :
    Tells (Option.bind (c (fs[i].1, 0, 100000)) fun r1 => bif !r1 then some false else bif b1 then
      Option.bind (c (fs[i].2.1, 0, 1048575)) fun r2 => bif !r2 then some false else bif b2 then
        Option.bind (c (fs[i].2.2, 0, 256)) fun r3 => bif !r3 then some false else
          bif decide ((i : Int) > 0) then
            bif decide (0 ≤ IntKind.wrap IntKind.i64 ((i : Int) - 1)) && decide (IntKind.wrap IntKind.i64 ((i : Int) - 1) < (fs.length : Int)) then
              bif b3 then
                bif decide ((List.getD fs (Int.toNat (IntKind.wrap IntKind.i64 ((i : Int) - 1))) ((0 : Int), (0 : Int), (0 : Int))).1 ≥ fs[i].1) then some false else x
              else none
            else none
          else x
        else none
      else none) (· = (faultsM (before fs i) (fs.drop i) && k)) := by
  subst h1 h2 h3
  rw [drop_at hi, before_succ hi] at *
  simp only [faultsM, fOk]
  refine tc (hc _ _ _) (tbif (fun h => tl (by simp at h; simp [h])) fun h => ?_)
  refine tc (hc _ _ _) (tbif (fun h' => tl (by simp at h'; simp [h'])) fun h' => ?_)
  refine tc (hc _ _ _) (tbif (fun h'' => tl (by simp at h''; simp [h''])) fun h'' => ?_)
  simp only [Bool.not_eq_false'] at h h' h''
  rw [h, h', h'']
  by_cases h0 : i = 0
  · subst h0
    refine tn (by omega) ?_
    simpa [before] using ih
  · have hb : before fs i = some fs[i - 1] := by unfold before; rw [if_neg h0]; simp
    have e : IntKind.wrap IntKind.i64 ((i : Int) - 1) = ((i - 1 : Nat) : Int) := by rw [wrap_id (by omega) (by omega)]; omega
    rw [hb, e]
    refine tp (by omega) (ti (by omega) (tt rfl ?_))
    rw [getD_in (by omega)]
    refine tif (fun c => tl ?_) fun c => ?_
    · simp only [decide_eq_true c]; simp
    · simp only [decide_eq_false c]; simpa using ih
def faultsOkM (fs : List (Int × Int × Int)) : Bool := faultsM none fs && decide ((fs.length : Int) ≤ 20)
theorem spec_l12Faults.sp {d : Nat} (hd : 2 ≤ d) {fs : List (Int × Int × Int)} (hl : fs.length ≤ 1048576) : spec_l12Faults.f d fs = some (faultsOkM fs) := by
  obtain ⟨d, rfl, _⟩ := dep hd
  rw [spec_l12Faults.t_eq]
  refine Tells.eq ?_
  refine loopE (spec_l12Faults.S0 d) fs.length (fun i => (fs, i)) (fun i r => r = (faultsM (before fs i) (fs.drop i) && decide ((fs.length : Int) ≤ 20))) (by omega) (fun L => ?_) fun L i hi ih => ?_
  · dsimp only [spec_l12Faults.S0, spec_l12Faults.s0]
    exact tn (by omega) (tl (by simp [faultsM]))
  · dsimp only [spec_l12Faults.S0, spec_l12Faults.s0]
    refine tp (by omega) (ti hi ?_)
    rw [getD_in hi, wrap_succ (by omega)]
    exact faults_round hi hl (spec_l1In.sp (by omega)) ih _ _ _ (inr hi) (inr hi) (inr hi)
def secOk (x : List Int) : Bool := decide ((x.length : Int) ≤ 256)
def wrOk (n : Int) (w : Int × List Int) : Bool := inB w.1 0 (n - 1) && decide ((w.2.length : Int) ≤ 256)
abbrev Dk := (List (List Int)) × (List (Int × (List Int))) × Int × (List (Int × Int × Int)) × Bool
def diskOkM (ss : List (List Int)) (ws : List (Int × List Int)) (p : Int) (fs : List (Int × Int × Int)) (on : Bool) : Bool :=
  ss.all secOk && ws.all (wrOk ss.length) && inB ss.length 4 48 && decide ((ws.length : Int) ≤ 60) && inB p 0 100000 && faultsOkM fs && (!on || decide (ws.length = 0))
/-- a test of each element -/
theorem loopAll {A β : Type} (s : (A → Option Bool) → A → Option Bool) (l : List β) (mk : Int → A) (p : β → Bool) (e : Bool) (hn : l.length ≤ 4611686018427387904)
    (base : ∀ L, Tells (s L (mk (l.length : Int))) (· = e))
    (step : ∀ L i (hi : i < l.length), (∀ e', Tells (L (mk ((i + 1 : Nat) : Int))) (· = e') → Tells (s L (mk (i : Int))) (· = (p l[i] && e')))) :
    Tells (iter s rnds (mk (0 : Int))) (· = (l.all p && e)) := by
  have := loopE s l.length mk (fun i r => r = ((l.drop i).all p && e)) hn (fun L => (base L).mono fun r h => by simp [h]) fun L i hi ih => by
    rw [drop_at hi, List.all_cons, Bool.and_assoc]
    exact step L i hi _ ih
  simpa using this
theorem impl_DiskOk.sp {d : Nat} (hd : 2 ≤ d) {ss : List (List Int)} {ws : List (Int × List Int)} {p : Int} {fs : List (Int × Int × Int)} {on : Bool} (h1 : ss.length ≤ 1048576) (h2 : ws.length ≤ 1048576) (h3 : fs.length ≤ 1048576) :
    impl_DiskOk.f d (ss, ws, p, fs, on) = some (diskOkM ss ws p fs on) := by
  obtain ⟨d, rfl, _⟩ := dep hd
  rw [impl_DiskOk.t_eq]
  refine Tells.eq ?_
  have e4 : Tells (iter (impl_DiskOk.S4 d) rnds (fs, (fs.length : Int), (0 : Int), ss, ws, p, fs, on)) (· = faultsM none fs) := by
    have := loopE (impl_DiskOk.S4 d) fs.length (fun i => (fs, (fs.length : Int), i, ss, ws, p, fs, on)) (fun i r => r = (faultsM (before fs i) (fs.drop i) && true)) (by omega) (fun L => ?_) fun L i hi ih => ?_
    · simpa [before] using this
    · dsimp only [impl_DiskOk.S4, impl_DiskOk.s4]
      exact tn (by omega) (tl (by simp [faultsM]))
    · dsimp only [impl_DiskOk.S4, impl_DiskOk.s4]
      refine tp (by omega) (ti hi ?_)
      rw [getD_in hi, wrap_succ (by omega)]
      exact faults_round hi h3 (impl_in.sp (by omega)) ih true true true rfl rfl rfl
  have e2 : Tells (iter (impl_DiskOk.S2 d) rnds (ws, (ws.length : Int), (0 : Int), ss, ws, p, fs, on)) (· = (ws.all (wrOk ss.length) && faultsM none fs)) := by
    refine loopAll (impl_DiskOk.S2 d) ws (fun i => (ws, (ws.length : Int), i, ss, ws, p, fs, on)) _ _ (by omega) (fun L => ?_) fun L i hi e ih => ?_
    · dsimp only [impl_DiskOk.S2, impl_DiskOk.s2]
      exact tn (by omega) e4
    · dsimp only [impl_DiskOk.S2, impl_DiskOk.s2]
      refine tp (by omega) (ti hi ?_)
      rw [getD_in hi, wrap_succ (by omega), wrap_id (by omega) (by omega)]
      refine tc (impl_in.sp (by omega) _ _ _) (tbif (fun c => tl (by simp at c; simp [wrOk, c])) fun c => ?_)
      simp only [Bool.not_eq_false'] at c
      refine tif (fun c2 => tl (by simp [wrOk]; omega)) fun c2 => ih.mono fun r hr => ?_
      rw [hr, wrOk, c, decide_eq_true (by omega)]; rfl
  have e0 : Tells (iter (impl_DiskOk.S0 d) rnds (ss, (ss.length : Int), (0 : Int), ss, ws, p, fs, on)) (· = (ss.all secOk && (ws.all (wrOk ss.length) && faultsM none fs))) := by
    refine loopAll (impl_DiskOk.S0 d) ss (fun i => (ss, (ss.length : Int), i, ss, ws, p, fs, on)) _ _ (by omega) (fun L => ?_) fun L i hi e ih => ?_
    · dsimp only [impl_DiskOk.S0, impl_DiskOk.s0]
      exact tn (by omega) e2
    · dsimp only [impl_DiskOk.S0, impl_DiskOk.s0]
      refine tp (by omega) (ti hi ?_)
      rw [getD_in hi, wrap_succ (by omega)]
      refine tif (fun c2 => tl (by simp [secOk]; omega)) fun c2 => ih.mono fun r hr => ?_
      rw [hr, secOk, decide_eq_true (by omega)]; rfl
  dsimp only [impl_DiskOk.m]
  refine tc (impl_in.sp (by omega) _ _ _) (tbif (fun c => tl (by simp at c; simp [diskOkM, c])) fun c => ?_)
  refine tif (fun c2 => tl (by simp [diskOkM]; omega)) fun c2 => ?_
  refine tc (impl_in.sp (by omega) _ _ _) (tbif (fun c3 => tl (by simp at c3; simp [diskOkM, c3])) fun c3 => ?_)
  refine tif (fun c4 => tl (by simp [diskOkM, faultsOkM]; omega)) fun c4 => ?_
  simp only [Bool.not_eq_false'] at c c3
  have e : diskOkM ss ws p fs on = (ss.all secOk && (ws.all (wrOk ss.length) && faultsM none fs) && (!on || decide (ws.length = 0))) := by
    unfold diskOkM faultsOkM
    rw [c, c3, decide_eq_true (show (ws.length : Int) ≤ 60 by omega), decide_eq_true (show (fs.length : Int) ≤ 20 by omega)]
    simp [Bool.and_assoc]
  rw [e]
  refine tbif (fun c5 => tif (fun c6 => tl ?_) fun c6 => e0.mono fun r hr => ?_) fun c5 => e0.mono fun r hr => ?_
  · rw [c5, decide_eq_false (show ¬ ws.length = 0 by omega)]; simp
  · rw [hr, c5, decide_eq_true (show ws.length = 0 by omega)]; simp
  · rw [hr, c5]; simp
theorem laws_eqByteS.self {d : Nat} (hd : 1 ≤ d) {l : List Int} (hl : l.length ≤ 140737488351232) : laws_eqByteS.f d (l, l) = some true := by
  obtain ⟨d, rfl, _⟩ := dep hd
  rw [laws_eqByteS.t_eq]
  refine Tells.eq ?_
  dsimp only [laws_eqByteS.m]
  refine tf (by simp) ?_
  refine loopE (laws_eqByteS.S0 d) l.length (fun i => (l, l, i)) (fun _ r => r = true) (by omega) (fun L => ?_) fun L i hi ih => ?_
  · dsimp only [laws_eqByteS.S0, laws_eqByteS.s0]
    exact tn (by omega) (tl rfl)
  · dsimp only [laws_eqByteS.S0, laws_eqByteS.s0]
    refine tp (by omega) (ti hi (ti hi (tf (by simp) ?_)))
    rwa [wrap_succ (by omega)]
theorem laws_eqByteSS.self {d : Nat} (hd : 2 ≤ d) {l : List (List Int)} (hl : l.length ≤ 140737488351232) (hx : ∀ x ∈ l, x.length ≤ 140737488351232) : laws_eqByteSS.f d (l, l) = some true := by
  obtain ⟨d, rfl, _⟩ := dep hd
  rw [laws_eqByteSS.t_eq]
  refine Tells.eq ?_
  dsimp only [laws_eqByteSS.m]
  refine tf (by simp) ?_
  refine loopE (laws_eqByteSS.S0 d) l.length (fun i => (l, l, i)) (fun _ r => r = true) (by omega) (fun L => ?_) fun L i hi ih => ?_
  · dsimp only [laws_eqByteSS.S0, laws_eqByteSS.s0]
    exact tn (by omega) (tl rfl)
  · dsimp only [laws_eqByteSS.S0, laws_eqByteSS.s0]
    refine tp (by omega) (ti hi (ti hi ?_))
    rw [getD_in hi, wrap_succ (by omega)]
    exact tc (laws_eqByteS.self (by omega) (hx _ (List.getElem_mem hi))) (tf rfl ih)
theorem laws_eqFault.self {d : Nat} (hd : 1 ≤ d) (a : Int × Int × Int) : laws_eqFault.f d (a.1, a.2.1, a.2.2, a.1, a.2.1, a.2.2) = some true := by
  obtain ⟨d, rfl, _⟩ := dep hd
  rw [laws_eqFault.t_eq]
  simp [laws_eqFault.m]
theorem laws_eqFaultS.self {d : Nat} (hd : 2 ≤ d) {l : List (Int × Int × Int)} (hl : l.length ≤ 140737488351232) : laws_eqFaultS.f d (l, l) = some true := by
  obtain ⟨d, rfl, _⟩ := dep hd
  rw [laws_eqFaultS.t_eq]
  refine Tells.eq ?_
  dsimp only [laws_eqFaultS.m]
  refine tf (by simp) ?_
  refine loopE (laws_eqFaultS.S0 d) l.length (fun i => (l, l, i)) (fun _ r => r = true) (by omega) (fun L => ?_) fun L i hi ih => ?_
  · dsimp only [laws_eqFaultS.S0, laws_eqFaultS.s0]
    exact tn (by omega) (tl rfl)
  · dsimp only [laws_eqFaultS.S0, laws_eqFaultS.s0]
    refine tp (by omega) (ti hi (ti hi ?_))
    rw [wrap_succ (by omega)]
    exact tc (laws_eqFault.self (by omega) _) (tf rfl ih)
theorem laws_eqWrite.self {d : Nat} (hd : 2 ≤ d) {a : Int × List Int} (hl : a.2.length ≤ 140737488351232) : laws_eqWrite.f d (a.1, a.2, a.1, a.2) = some true := by
  obtain ⟨d, rfl, _⟩ := dep hd
  rw [laws_eqWrite.t_eq]
  refine Tells.eq ?_
  dsimp only [laws_eqWrite.m]
  exact tf (by simp) (tc (laws_eqByteS.self (by omega) hl) (tf rfl (tl rfl)))
theorem laws_eqWriteS.self {d : Nat} (hd : 3 ≤ d) {l : List (Int × List Int)} (hl : l.length ≤ 140737488351232) (hx : ∀ x ∈ l, x.2.length ≤ 140737488351232) : laws_eqWriteS.f d (l, l) = some true := by
  obtain ⟨d, rfl, _⟩ := dep hd
  rw [laws_eqWriteS.t_eq]
  refine Tells.eq ?_
  dsimp only [laws_eqWriteS.m]
  refine tf (by simp) ?_
  refine loopE (laws_eqWriteS.S0 d) l.length (fun i => (l, l, i)) (fun _ r => r = true) (by omega) (fun L => ?_) fun L i hi ih => ?_
  · dsimp only [laws_eqWriteS.S0, laws_eqWriteS.s0]
    exact tn (by omega) (tl rfl)
  · dsimp only [laws_eqWriteS.S0, laws_eqWriteS.s0]
    refine tp (by omega) (ti hi (ti hi ?_))
    rw [getD_in hi, wrap_succ (by omega)]
    exact tc (laws_eqWrite.self (by omega) (hx _ (List.getElem_mem hi))) (tf rfl ih)
/-- a disk's rows are no longer than memory holds -/
def dkFit (x : Dk) : Prop := (x.1.length ≤ 140737488351232 ∧ ∀ y ∈ x.1, y.length ≤ 140737488351232) ∧ (x.2.1.length ≤ 140737488351232 ∧ ∀ y ∈ x.2.1, y.2.length ≤ 140737488351232) ∧ x.2.2.2.1.length ≤ 140737488351232
theorem laws_eqDisk.self {d : Nat} (hd : 4 ≤ d) {x : Dk} (h : dkFit x) : laws_eqDisk.f d (x.1, x.2.1, x.2.2.1, x.2.2.2.1, x.2.2.2.2, x.1, x.2.1, x.2.2.1, x.2.2.2.1, x.2.2.2.2) = some true := by
  obtain ⟨d, rfl, _⟩ := dep hd
  rw [laws_eqDisk.t_eq]
  refine Tells.eq ?_
  dsimp only [laws_eqDisk.m]
  refine tc (laws_eqByteSS.self (by omega) h.1.1 h.1.2) (tf rfl ?_)
  refine tc (laws_eqWriteS.self (by omega) h.2.1.1 h.2.1.2) (tf rfl (tf (by simp) ?_))
  exact tc (laws_eqFaultS.self (by omega) h.2.2) (tf rfl (tf (by simp) (tl rfl)))
def Mb (n : Int) (x : Int) : Prop := x = IntKind.wrap IntKind.u8 n
abbrev MkB := MkL (fun _ : Int => 1) Mb
theorem sum_one {α : Type} (l : List α) : wSum (fun _ => 1) l = l.length := by induction l with
  | nil => rfl
  | cons a l ih => rw [wSum_cons, ih, List.length_cons]; omega
def Mf (n : Int) (x : Int × Int × Int) : Prop := x = (n, n + 1, n + 2)
abbrev MkF := MkL (fun _ : Int × Int × Int => 3) Mf
abbrev MkBB := MkL (fun x : List Int => x.length) MkB
def Mw (n : Int) (x : Int × List Int) : Prop := x.1 = n ∧ MkB (n + 1) x.2
def ww (x : Int × List Int) : Nat := x.2.length + 1
abbrev MkW := MkL ww Mw
theorem laws_markByteS.sp {d : Nat} (hd : 1 ≤ d) {l : List Int} {n : Int} (h0 : 0 ≤ n) (hl : l.length ≤ 140737488351232) (hn : n + l.length ≤ 4611686018427387904) :
    Tells (laws_markByteS.f d (l, n)) (fun r => r.1 = n + l.length ∧ MkB n r.2 ∧ r.2.length = l.length) := by
  obtain ⟨d, rfl, _⟩ := dep hd
  rw [laws_markByteS.t_eq]
  dsimp only [laws_markByteS.m]
  refine (loopMark (w := fun _ => 1) (M := Mb) (laws_markByteS.S0 d) h0 (by rw [sum_one]; exact hn) hl (fun L n st h => ?_) fun L n st i Q hi h hwx h0 hn ih => ?_).mono fun r hr => ?_
  · dsimp only [laws_markByteS.S0, laws_markByteS.s0]
    exact tn (by omega) (tl rfl)
  · dsimp only [laws_markByteS.S0, laws_markByteS.s0]
    refine tp (by omega) (ti hi ?_)
    rw [wrap_succ (by omega), wrapn (by omega) (by omega)]
    exact ih _ rfl rfl
  · rw [sum_one] at hr
    exact ⟨hr.1, hr.2.1, by simpa using congrArg List.length hr.2.2⟩
theorem laws_heldByteS.sp {d : Nat} (hd : 1 ≤ d) {l : List Int} {n : Int} (h0 : 0 ≤ n) (hl : l.length ≤ 140737488351232) (hn : n + l.length ≤ 4611686018427387904) (hm : MkB n l) : laws_heldByteS.f d (l, n) = some (n + l.length) := by
  obtain ⟨d, rfl, _⟩ := dep hd
  rw [laws_heldByteS.t_eq]
  dsimp only [laws_heldByteS.m]
  refine Tells.eq ?_
  have := loopHeld (w := fun _ => 1) (M := Mb) (laws_heldByteS.S0 d) h0 (by rw [sum_one]; exact hn) hl hm (fun L n => ?_) fun L n i Q hi h0 hn hM ih => ?_
  · rw [sum_one] at this; exact this
  · dsimp only [laws_heldByteS.S0, laws_heldByteS.s0]
    exact tn (by omega) (tl rfl)
  · dsimp only [laws_heldByteS.S0, laws_heldByteS.s0]
    refine tp (by omega) (ti hi ?_)
    rw [getD_in hi, wrap_succ (by omega), wrapn (by omega) (by omega), hM]
    exact tf (by simp) ih
theorem laws_markFaultS.sp {d : Nat} (hd : 1 ≤ d) {l : List (Int × Int × Int)} {n : Int} (h0 : 0 ≤ n) (hl : l.length ≤ 140737488351232) (hn : n + wSum (fun _ : Int × Int × Int => 3) l ≤ 4611686018427387904) :
    Tells (laws_markFaultS.f d (l, n)) (fun r => r.1 = n + wSum (fun _ : Int × Int × Int => 3) l ∧ MkF n r.2 ∧ r.2.length = l.length) := by
  obtain ⟨d, rfl, _⟩ := dep hd
  rw [laws_markFaultS.t_eq]
  dsimp only [laws_markFaultS.m]
  refine (loopMark (w := fun _ => 3) (M := Mf) (laws_markFaultS.S0 d) h0 hn hl (fun L n st h => ?_) fun L n st i Q hi h hwx h0 hn ih => ?_).mono fun r hr => ⟨hr.1, hr.2.1, by simpa using congrArg List.length hr.2.2⟩
  · dsimp only [laws_markFaultS.S0, laws_markFaultS.s0]
    exact tn (by omega) (tl rfl)
  · dsimp only [laws_markFaultS.S0, laws_markFaultS.s0]
    refine tp (by omega) (ti hi (tt ?_ (tt ?_ ?_)))
    · simp [hi]
    · simp [hi]
    · have := ih (n, n + 1, n + 2) rfl rfl
      rw [wrap_succ (by omega), wrapn (x := n + 1) (by omega) (by omega), show n + 1 + 1 = n + 2 by omega, wrapn (x := n + 2) (by omega) (by omega), show n + 2 + 1 = n + ((3 : Nat) : Int) by omega, wrapn (x := n + ((3 : Nat) : Int)) (by omega) (by omega)]
      simpa [hi] using this
theorem laws_heldFaultS.sp {d : Nat} (hd : 1 ≤ d) {l : List (Int × Int × Int)} {n : Int} (h0 : 0 ≤ n) (hl : l.length ≤ 140737488351232) (hn : n + wSum (fun _ : Int × Int × Int => 3) l ≤ 4611686018427387904) (hm : MkF n l) : laws_heldFaultS.f d (l, n) = some (n + wSum (fun _ : Int × Int × Int => 3) l) := by
  obtain ⟨d, rfl, _⟩ := dep hd
  rw [laws_heldFaultS.t_eq]
  dsimp only [laws_heldFaultS.m]
  refine Tells.eq ?_
  refine loopHeld (w := fun _ => 3) (M := Mf) (laws_heldFaultS.S0 d) h0 hn hl hm (fun L n => ?_) fun L n i Q hi h0 hn hM ih => ?_
  · dsimp only [laws_heldFaultS.S0, laws_heldFaultS.s0]
    exact tn (by omega) (tl rfl)
  · dsimp only [laws_heldFaultS.S0, laws_heldFaultS.s0]
    refine tp (by omega) (ti hi ?_)
    rw [getD_in hi, wrap_succ (by omega), wrapn (x := n + 1) (by omega) (by omega), show n + 1 + 1 = n + 2 by omega, wrapn (x := n + 2) (by omega) (by omega), show n + 2 + 1 = n + ((3 : Nat) : Int) by omega, wrapn (x := n + ((3 : Nat) : Int)) (by omega) (by omega), hM]
    exact tf (by simp) (ti hi (tf (by simp) (ti hi (tf (by simp) ih))))
theorem laws_markByteSS.sp {d : Nat} (hd : 2 ≤ d) {l : List (List Int)} {n : Int} (h0 : 0 ≤ n) (hl : l.length ≤ 140737488351232) (hx : ∀ x ∈ l, x.length ≤ 140737488351232) (hn : n + wSum List.length l ≤ 4611686018427387904) :
    Tells (laws_markByteSS.f d (l, n)) (fun r => r.1 = n + wSum List.length l ∧ MkBB n r.2 ∧ r.2.map List.length = l.map List.length) := by
  obtain ⟨d, rfl, _⟩ := dep hd
  rw [laws_markByteSS.t_eq]
  dsimp only [laws_markByteSS.m]
  refine loopMark (w := fun x : List Int => x.length) (M := MkB) (laws_markByteSS.S0 d) h0 hn hl (fun L n st h => ?_) fun L n st i Q hi h hwx h0 hn ih => ?_
  · dsimp only [laws_markByteSS.S0, laws_markByteSS.s0]
    exact tn (by omega) (tl rfl)
  · dsimp only [laws_markByteSS.S0, laws_markByteSS.s0]
    refine tp (by omega) (ti hi ?_)
    rw [getD_in hi, wrap_succ (by omega)]
    obtain ⟨x, hx1, hx2⟩ := hwx
    have := hx x hx1
    refine tb (laws_markByteS.sp (by omega) h0 (by omega) hn) fun a ha => ?_
    rw [ha.1]
    exact ih _ ha.2.2 ha.2.1
theorem laws_heldByteSS.sp {d : Nat} (hd : 2 ≤ d) {l : List (List Int)} {n : Int} (h0 : 0 ≤ n) (hl : l.length ≤ 140737488351232) (hx : ∀ x ∈ l, x.length ≤ 140737488351232) (hn : n + wSum List.length l ≤ 4611686018427387904) (hm : MkBB n l) : laws_heldByteSS.f d (l, n) = some (n + wSum List.length l) := by
  obtain ⟨d, rfl, _⟩ := dep hd
  rw [laws_heldByteSS.t_eq]
  dsimp only [laws_heldByteSS.m]
  refine Tells.eq ?_
  refine loopHeld (w := fun x : List Int => x.length) (M := MkB) (laws_heldByteSS.S0 d) h0 hn hl hm (fun L n => ?_) fun L n i Q hi h0 hn hM ih => ?_
  · dsimp only [laws_heldByteSS.S0, laws_heldByteSS.s0]
    exact tn (by omega) (tl rfl)
  · dsimp only [laws_heldByteSS.S0, laws_heldByteSS.s0]
    refine tp (by omega) (ti hi ?_)
    rw [getD_in hi, wrap_succ (by omega)]
    exact tc (laws_heldByteS.sp (by omega) h0 (hx _ (List.getElem_mem hi)) hn hM) (tn (by omega) ih)
theorem laws_markWriteS.sp {d : Nat} (hd : 2 ≤ d) {l : List (Int × List Int)} {n : Int} (h0 : 0 ≤ n) (hl : l.length ≤ 140737488351232) (hn : n + wSum ww l ≤ 4611686018427387904) (hx : ∀ x ∈ l, x.2.length ≤ 140737488351232) :
    Tells (laws_markWriteS.f d (l, n)) (fun r => r.1 = n + wSum ww l ∧ MkW n r.2 ∧ r.2.map ww = l.map ww) := by
  obtain ⟨d, rfl, _⟩ := dep hd
  rw [laws_markWriteS.t_eq]
  dsimp only [laws_markWriteS.m]
  refine loopMark (w := ww) (M := Mw) (laws_markWriteS.S0 d) h0 hn hl (fun L n st h => ?_) fun L n st i Q hi h hwx h0 hn ih => ?_
  · dsimp only [laws_markWriteS.S0, laws_markWriteS.s0]
    exact tn (by omega) (tl rfl)
  · dsimp only [laws_markWriteS.S0, laws_markWriteS.s0]
    refine tp (by omega) (ti hi (tt (by simp [hi]) ?_))
    have e : ∀ z, List.getD (List.set st (Int.toNat (i : Int)) (n, (List.getD st (Int.toNat (i : Int)) ((0 : Int), ([] : List Int))).2)) (Int.toNat (i : Int)) z = (n, st[i].2) := fun z => by simp [hi]
    simp only [e]
    obtain ⟨x, hx1, hx2⟩ := hwx
    have := hx x hx1
    unfold ww at hn hx2
    rw [wrap_succ (by omega), wrapn (by omega) (by omega)]
    refine tb (laws_markByteS.sp (by omega) (by omega) (by omega) (by omega)) fun a ha => ?_
    have := ih (n, a.2) (by simp [ww, ha.2.2]) ⟨rfl, ha.2.1⟩
    rw [ha.1]
    unfold ww at this
    rw [show n + 1 + (st[i].2.length : Int) = n + ((st[i].2.length + 1 : Nat) : Int) by omega]
    simpa [hi] using this
theorem laws_heldWriteS.sp {d : Nat} (hd : 2 ≤ d) {l : List (Int × List Int)} {n : Int} (h0 : 0 ≤ n) (hl : l.length ≤ 140737488351232) (hx : ∀ x ∈ l, x.2.length ≤ 140737488351232) (hn : n + wSum ww l ≤ 4611686018427387904) (hm : MkW n l) : laws_heldWriteS.f d (l, n) = some (n + wSum ww l) := by
  obtain ⟨d, rfl, _⟩ := dep hd
  rw [laws_heldWriteS.t_eq]
  dsimp only [laws_heldWriteS.m]
  refine Tells.eq ?_
  refine loopHeld (w := ww) (M := Mw) (laws_heldWriteS.S0 d) h0 hn hl hm (fun L n => ?_) fun L n i Q hi h0 hn hM ih => ?_
  · dsimp only [laws_heldWriteS.S0, laws_heldWriteS.s0]
    exact tn (by omega) (tl rfl)
  · dsimp only [laws_heldWriteS.S0, laws_heldWriteS.s0]
    refine tp (by omega) (ti hi ?_)
    unfold ww at hn ih
    rw [getD_in hi, wrap_succ (by omega), wrapn (by omega) (by omega), hM.1]
    refine tf (by simp) (ti hi (tc (laws_heldByteS.sp (by omega) (by omega) (hx _ (List.getElem_mem hi)) (by omega) hM.2) (tn (by omega) ?_)))
    rwa [show n + 1 + (l[i].2.length : Int) = n + ((l[i].2.length + 1 : Nat) : Int) by omega]
def dkW (x : Dk) : Nat := wSum List.length x.1 + wSum ww x.2.1 + wSum (fun _ : Int × Int × Int => 3) x.2.2.2.1
theorem map_len {α β : Type} {f : α → β} {a b : List α} (h : a.map f = b.map f) : a.length = b.length := by simpa using congrArg List.length h
theorem map_all {α β : Type} {f : α → β} {a b : List α} (h : a.map f = b.map f) {P : β → Prop} (hb : ∀ x ∈ b, P (f x)) : ∀ x ∈ a, P (f x) := fun x hx => by
  have := List.mem_map_of_mem (f := f) hx
  rw [h] at this
  obtain ⟨y, hy, e⟩ := List.mem_map.1 this
  rw [← e]; exact hb y hy
/-- what is marked is held -/
theorem laws_markDisk.held {d d2 : Nat} (hd : 3 ≤ d) (hd2 : 3 ≤ d2) {x : Dk} {n : Int} (h0 : 0 ≤ n) (hf : dkFit x) (hn : n + dkW x ≤ 4611686018427387904) :
    Tells (laws_markDisk.f d (x.1, x.2.1, x.2.2.1, x.2.2.2.1, x.2.2.2.2, n)) (fun r => 0 ≤ r.1 ∧ ∀ p on, laws_heldDisk.f d2 (r.2.1, r.2.2.1, p, r.2.2.2, on, n) = some r.1) := by
  obtain ⟨d, rfl, _⟩ := dep hd
  obtain ⟨d2, rfl, _⟩ := dep hd2
  rw [laws_markDisk.t_eq]
  dsimp only [laws_markDisk.m]
  unfold dkW at hn
  refine tb (laws_markByteSS.sp (by omega) h0 hf.1.1 hf.1.2 (by omega)) fun a ha => ?_
  have hb0 : 0 ≤ a.1 := by omega
  refine tb (laws_markWriteS.sp (by omega) hb0 hf.2.1.1 (by omega) hf.2.1.2) fun b hb => ?_
  refine tb (laws_markFaultS.sp (by omega) (by omega) hf.2.2 (by omega)) fun c hc => tl ⟨by omega, fun p on => ?_⟩
  rw [laws_heldDisk.t_eq]
  dsimp only [laws_heldDisk.m]
  refine Tells.eq ?_
  have sa : wSum List.length a.2 = wSum List.length x.1 := by simp only [wSum, ha.2.2]
  have sb : wSum ww b.2 = wSum ww x.2.1 := by simp only [wSum, hb.2.2]
  have sc : wSum (fun _ : Int × Int × Int => 3) c.2 = wSum (fun _ : Int × Int × Int => 3) x.2.2.2.1 := by
    have h : ∀ l : List (Int × Int × Int), wSum (fun _ : Int × Int × Int => 3) l = 3 * l.length := fun l => by
      induction l with
      | nil => rfl
      | cons y l ih => rw [wSum_cons, ih, List.length_cons]; omega
    rw [h, h, hc.2.2]
  refine tc (a := a.1) ?_ (tn (by omega) (tc (a := b.1) ?_ (tn (by omega) (tc (a := c.1) ?_ (tn (by omega) (tl rfl))))))
  · rw [laws_heldByteSS.sp (by omega) h0 (by rw [map_len ha.2.2]; exact hf.1.1) (map_all ha.2.2 (P := fun n => n ≤ 140737488351232) hf.1.2) (by rw [sa]; omega) ha.2.1, sa, ha.1]
  · have hw : ∀ y ∈ b.2, ww y ≤ 140737488351233 := map_all hb.2.2 (P := fun n => n ≤ 140737488351233) fun y hy => by have := hf.2.1.2 y hy; unfold ww; omega
    rw [laws_heldWriteS.sp (by omega) hb0 (by rw [map_len hb.2.2]; exact hf.2.1.1) (fun y hy => by have := hw y hy; unfold ww at this; omega) (by rw [sb]; omega) hb.2.1, sb, hb.1]
  · rw [laws_heldFaultS.sp (by omega) (by omega) (by rw [hc.2.2]; exact hf.2.2) (by rw [sc]; omega) hc.2.1, sc, hc.1]
theorem laws_markDisk.nn {d : Nat} (hd : 3 ≤ d) {x : Dk} {n : Int} (h0 : 0 ≤ n) (hf : dkFit x) (hn : n + dkW x ≤ 4611686018427387904) :
    Tells (laws_markDisk.f d (x.1, x.2.1, x.2.2.1, x.2.2.2.1, x.2.2.2.2, n)) (fun r => 0 ≤ r.1) := by
  obtain ⟨d, rfl, _⟩ := dep hd
  rw [laws_markDisk.t_eq]
  dsimp only [laws_markDisk.m]
  unfold dkW at hn
  refine tb (laws_markByteSS.sp (by omega) h0 hf.1.1 hf.1.2 (by omega)) fun a ha => ?_
  refine tb (laws_markWriteS.sp (by omega) (by omega) hf.2.1.1 (by omega) hf.2.1.2) fun b hb => ?_
  exact tb (laws_markFaultS.sp (by omega) (by omega) hf.2.2 (by omega)) fun c hc => tl (by omega)
def noDk : Dk := ([], [], 0, [], false)
def newDk (n : Int) (fs : List (Int × Int × Int)) : Dk := if inB n 4 48 = true ∧ faultsOkM fs = true then (List.replicate n.toNat [], [], 0, fs, false) else noDk
theorem newDk_fit {n : Int} {fs : List (Int × Int × Int)} : dkFit (newDk n fs) ∧ dkW (newDk n fs) ≤ 1000 := by
  unfold newDk
  split
  · rename_i h
    have h1 := inB_iff.1 h.1
    have h2 := h.2
    unfold faultsOkM at h2
    simp only [Bool.and_eq_true, decide_eq_true_eq] at h2
    have hs : ∀ k : Nat, wSum List.length (List.replicate k ([] : List Int)) = 0 := fun k => by simp [wSum]
    have hq : ∀ l : List (Int × Int × Int), wSum (fun _ : Int × Int × Int => 3) l = 3 * l.length := fun l => by
      induction l with
      | nil => rfl
      | cons y l ih => rw [wSum_cons, ih, List.length_cons]; omega
    refine ⟨⟨⟨by simp; omega, fun y hy => by rw [(List.mem_replicate.1 hy).2]; simp⟩, ⟨by simp, fun y hy => by cases hy⟩, by simp only; omega⟩, ?_⟩
    simp only [dkW, hs, hq]
    simp only [wSum, List.map_nil, List.sum_nil]
    omega
  · exact ⟨⟨⟨by simp [noDk], fun y hy => by cases hy⟩, ⟨by simp [noDk], fun y hy => by cases hy⟩, by simp [noDk]⟩, by simp [noDk, dkW, wSum]⟩
theorem laws_szByteS.sp {d : Nat} (hd : 1 ≤ d) {l : List Int} {left : Int} (h0 : 0 ≤ left) (h1 : left ≤ 1048576) (hl : l.length ≤ 140737488351232) :
    Tells (laws_szByteS.f d (l, left)) fun r => r ≤ left ∧ (0 ≤ r → (l.length : Int) ≤ left - r) := by
  obtain ⟨d, rfl, _⟩ := dep hd
  rw [laws_szByteS.t_eq]
  dsimp only [laws_szByteS.m]
  rw [wrap_id (by omega) (by omega)]
  exact tif (fun h => tl ⟨by omega, by omega⟩) fun h => tl ⟨by omega, by omega⟩
theorem laws_szByteSS.sp {d : Nat} (hd : 2 ≤ d) {l : List (List Int)} {left : Int} (h0 : 0 ≤ left) (h1 : left ≤ 1048576) (hl : l.length ≤ 140737488351232) (hx : ∀ x ∈ l, x.length ≤ 140737488351232) :
    Tells (laws_szByteSS.f d (l, left)) fun r => r ≤ left ∧ (0 ≤ r → (l.length : Int) + wSum List.length l ≤ left - r) := by
  obtain ⟨d, rfl, _⟩ := dep hd
  rw [laws_szByteSS.t_eq]
  dsimp only [laws_szByteSS.m]
  rw [wrap_id (by omega) (by omega)]
  refine tif (fun h => tl ⟨by omega, by omega⟩) fun h => ?_
  refine (loopSz (w := List.length) (laws_szByteSS.S0 d) (by omega) hl (fun L st => ?_) fun L st i Q hi h0 h1 hq ih => ?_).mono fun r hr => ⟨by omega, fun h => by have := hr.2 h; omega⟩
  · dsimp only [laws_szByteSS.S0, laws_szByteSS.s0]
    exact tn (by omega) (tl rfl)
  · dsimp only [laws_szByteSS.S0, laws_szByteSS.s0]
    refine tp (by omega) (ti hi ?_)
    rw [getD_in hi, wrap_succ (by omega)]
    exact tb (laws_szByteS.sp (by omega) h0 (by omega) (hx _ (List.getElem_mem hi))) fun a ha => tif (fun _ => tl hq) fun h => ih a (by omega) (ha.2 (by omega))
theorem laws_szWriteS.sp {d : Nat} (hd : 3 ≤ d) {l : List (Int × List Int)} {left : Int} (h0 : 0 ≤ left) (h1 : left ≤ 1048576) (hl : l.length ≤ 140737488351232) (hx : ∀ x ∈ l, x.2.length ≤ 140737488351232) :
    Tells (laws_szWriteS.f d (l, left)) fun r => r ≤ left ∧ (0 ≤ r → (l.length : Int) + wSum (fun x => x.2.length) l ≤ left - r) := by
  obtain ⟨d, rfl, _⟩ := dep hd
  rw [laws_szWriteS.t_eq]
  dsimp only [laws_szWriteS.m]
  rw [wrap_id (by omega) (by omega)]
  refine tif (fun h => tl ⟨by omega, by omega⟩) fun h => ?_
  refine (loopSz (w := fun x : Int × List Int => x.2.length) (laws_szWriteS.S0 d) (by omega) hl (fun L st => ?_) fun L st i Q hi h0 h1 hq ih => ?_).mono fun r hr => ⟨by omega, fun h => by have := hr.2 h; omega⟩
  · dsimp only [laws_szWriteS.S0, laws_szWriteS.s0]
    exact tn (by omega) (tl rfl)
  · dsimp only [laws_szWriteS.S0, laws_szWriteS.s0]
    refine tp (by omega) (ti hi ?_)
    rw [getD_in hi, wrap_succ (by omega)]
    obtain ⟨d, rfl, _⟩ := dep (show 1 + 1 ≤ d by omega)
    rw [laws_szWrite.t_eq]
    dsimp only [laws_szWrite.m]
    refine tb (P := fun a => a ≤ st ∧ (0 ≤ a → (l[i].2.length : Int) ≤ st - a)) ?_ fun a ha => tif (fun _ => tl hq) fun h => ih a (by omega) (ha.2 (by omega))
    exact tb (laws_szByteS.sp (by omega) h0 (by omega) (hx _ (List.getElem_mem hi))) fun a ha => tif (fun _ => tl ⟨by omega, fun h => by omega⟩) fun h => tl ha
def dkOk (x : Dk) : Prop := okV (.row (.one (.row (.one (.int .u8))))) x.1 ∧ okV (.row (.cons (.int .i64) (.one (.row (.one (.int .u8)))))) x.2.1 ∧ okV (.row (.cons (.int .i64) (.cons (.int .i64) (.one (.int .i64))))) x.2.2.2.1
theorem okRow_len {cs : SS} {l : List cs.T} (h : okV (.row cs) l) : l.length ≤ 140737488351232 := Nat.le_trans (Nat.le_mul_of_pos_right _ (SS.size_pos cs)) h.1
theorem dkOk.fit {x : Dk} (h : dkOk x) : dkFit x :=
  ⟨⟨okRow_len h.1, fun y hy => okRow_len (h.1.2 y hy)⟩, ⟨okRow_len (cs := .cons (.int .i64) (.one (.row (.one (.int .u8))))) h.2.1, fun y hy => okRow_len (h.2.1.2 y hy).2⟩, okRow_len (cs := .cons (.int .i64) (.cons (.int .i64) (.one (.int .i64)))) h.2.2⟩
/-- no more than a million -/
def dkSm (x : Dk) : Prop := (x.1.length ≤ 1048576 ∧ ∀ y ∈ x.1, y.length ≤ 1048576) ∧ (x.2.1.length ≤ 1048576 ∧ ∀ y ∈ x.2.1, y.2.length ≤ 1048576) ∧ x.2.2.2.1.length ≤ 1048576 ∧ dkW x ≤ 10000000
theorem sum_three (l : List (Int × Int × Int)) : wSum (fun _ : Int × Int × Int => 3) l = 3 * l.length := by
  induction l with
  | nil => rfl
  | cons y l ih => rw [wSum_cons, ih, List.length_cons]; omega
theorem sum_ww (l : List (Int × List Int)) : wSum ww l = l.length + wSum (fun x => x.2.length) l := by
  induction l with
  | nil => rfl
  | cons y l ih => rw [wSum_cons, wSum_cons, ih, List.length_cons]; unfold ww; omega
theorem dkSm.fit {x : Dk} (h : dkSm x) : dkFit x := ⟨⟨by have := h.1.1; omega, fun y hy => by have := h.1.2 y hy; omega⟩, ⟨by have := h.2.1.1; omega, fun y hy => by have := h.2.1.2 y hy; omega⟩, by have := h.2.2.1; omega⟩
theorem laws_szDisk.sp {d : Nat} (hd : 4 ≤ d) {x : Dk} (hf : dkFit x) : Tells (laws_szDisk.f d (x.1, x.2.1, x.2.2.1, x.2.2.2.1, x.2.2.2.2, 1048576)) fun r => 0 ≤ r → dkSm x := by
  obtain ⟨d, rfl, _⟩ := dep hd
  rw [laws_szDisk.t_eq]
  dsimp only [laws_szDisk.m]
  refine tb (laws_szByteSS.sp (by omega) (by omega) (by omega) hf.1.1 hf.1.2) fun a ha => tif (fun _ => tl fun h => by omega) fun c => ?_
  refine tb (laws_szWriteS.sp (by omega) (by omega) (by omega) hf.2.1.1 hf.2.1.2) fun b hb => tif (fun _ => tl fun h => by omega) fun c2 => ?_
  refine tb (laws_szFaultS.sp (by omega) (by omega) (by omega) hf.2.2) fun e he => tif (fun _ => tl fun h => by omega) fun c3 => tl fun _ => ?_
  have h1 := ha.2 (by omega)
  have h2 := hb.2 (by omega)
  have h3 := he.2 (by omega)
  refine ⟨⟨by omega, fun y hy => by have := mem_wSum (w := List.length) hy; omega⟩, ⟨by omega, fun y hy => by have h : y.2.length ≤ wSum (fun x : Int × List Int => x.2.length) x.2.1 := mem_wSum (w := fun x : Int × List Int => x.2.length) hy; omega⟩, by omega, ?_⟩
  unfold dkW
  rw [sum_three, sum_ww]
  omega
theorem laws_toByteS.sp {d : Nat} (hd : 1 ≤ d) {l : List Int} (hl : l.length ≤ 1048576) : laws_toByteS.f d l = some l := by
  obtain ⟨d, rfl, _⟩ := dep hd
  rw [laws_toByteS.t_eq]
  dsimp only [laws_toByteS.m]
  refine Tells.eq (tt (by simp; omega) ?_)
  have := loopFill (laws_toByteS.S0 d) l id (List.replicate (Int.toNat (l.length : Int)) (0 : Int)) (by simp) (by omega) (fun L st h => ?_) fun L st i Q hi h ih => ?_
  · simpa using this
  · dsimp only [laws_toByteS.S0, laws_toByteS.s0]
    exact tn (by omega) (tl rfl)
  · dsimp only [laws_toByteS.S0, laws_toByteS.s0]
    refine tp (by omega) (ti hi (ti (by omega) ?_))
    rw [getD_in hi, wrap_succ (by omega)]
    exact ih
theorem laws_toByteSS.sp {d : Nat} (hd : 2 ≤ d) {l : List (List Int)} (hl : l.length ≤ 1048576) (hx : ∀ x ∈ l, x.length ≤ 1048576) : laws_toByteSS.f d l = some l := by
  obtain ⟨d, rfl, _⟩ := dep hd
  rw [laws_toByteSS.t_eq]
  dsimp only [laws_toByteSS.m]
  refine Tells.eq (tt (by simp; omega) ?_)
  have := loopFill (laws_toByteSS.S0 d) l id (List.replicate (Int.toNat (l.length : Int)) ([] : List Int)) (by simp) (by omega) (fun L st h => ?_) fun L st i Q hi h ih => ?_
  · simpa using this
  · dsimp only [laws_toByteSS.S0, laws_toByteSS.s0]
    exact tn (by omega) (tl rfl)
  · dsimp only [laws_toByteSS.S0, laws_toByteSS.s0]
    refine tp (by omega) (ti hi ?_)
    rw [getD_in hi, wrap_succ (by omega)]
    exact tc (laws_toByteS.sp (by omega) (hx _ (List.getElem_mem hi))) (ti (by omega) ih)
theorem laws_toWriteS.sp {d : Nat} (hd : 3 ≤ d) {l : List (Int × List Int)} (hl : l.length ≤ 1048576) (hx : ∀ x ∈ l, x.2.length ≤ 1048576) : laws_toWriteS.f d l = some l := by
  obtain ⟨d, rfl, _⟩ := dep hd
  rw [laws_toWriteS.t_eq]
  dsimp only [laws_toWriteS.m]
  refine Tells.eq (tt (by simp; omega) ?_)
  have := loopFill (laws_toWriteS.S0 d) l id (List.replicate (Int.toNat (l.length : Int)) ((0 : Int), ([] : List Int))) (by simp) (by omega) (fun L st h => ?_) fun L st i Q hi h ih => ?_
  · simpa using this
  · dsimp only [laws_toWriteS.S0, laws_toWriteS.s0]
    exact tn (by omega) (tl rfl)
  · dsimp only [laws_toWriteS.S0, laws_toWriteS.s0]
    refine tp (by omega) (ti hi ?_)
    rw [getD_in hi, wrap_succ (by omega)]
    obtain ⟨d, rfl, _⟩ := dep (show 1 + 1 ≤ d by omega)
    have e : laws_toWrite.f (d + 1) (l[i].1, l[i].2) = some l[i] := by
      rw [laws_toWrite.t_eq]
      dsimp only [laws_toWrite.m]
      rw [laws_toByteS.sp (by omega) (hx _ (List.getElem_mem hi))]; rfl
    refine tc e (ti (by omega) ?_)
    simpa [show i < st.length by omega] using ih
theorem laws_toDisk.sp {d : Nat} (hd : 4 ≤ d) {x : Dk} (h : dkSm x) : laws_toDisk.f d (x.1, x.2.1, x.2.2.1, x.2.2.2.1, x.2.2.2.2) = some x := by
  obtain ⟨d, rfl, _⟩ := dep hd
  rw [laws_toDisk.t_eq]
  dsimp only [laws_toDisk.m]
  exact Tells.eq (tc (laws_toByteSS.sp (by omega) h.1.1 h.1.2) (tc (laws_toWriteS.sp (by omega) h.2.1.1 h.2.1.2) (tc (laws_toFaultS.sp (by omega) h.2.2.1) (tl rfl))))
def lastW (ws : List (Int × List Int)) (n : Int) (z : List Int) : List Int := match ws.reverse.find? (fun w => w.1 == n) with
  | some w => w.2
  | none => z
theorem lastW_snoc {ws : List (Int × List Int)} {i : Nat} (h : i < ws.length) {n : Int} {z : List Int} : lastW (ws.take (i + 1)) n z = if ws[i].1 = n then ws[i].2 else lastW (ws.take i) n z := by
  unfold lastW
  rw [List.take_add_one, List.getElem?_eq_getElem h, Option.toList_some, List.reverse_append, List.reverse_singleton, List.singleton_append, List.find?_cons]
  by_cases hn : ws[i].1 = n
  · rw [if_pos hn, show (ws[i].1 == n) = true by simpa using hn]
  · rw [if_neg hn, show (ws[i].1 == n) = false by simpa using hn]
def readM (x : Dk) (n : Int) : List Int × Bool := if inB n 0 ((x.1.length : Int) - 1) = true then (lastW x.2.1 n (x.1.getD n.toNat []), true) else ([], false)
theorem lastW_mem {ws : List (Int × List Int)} {n : Int} {z : List Int} {P : List Int → Prop} (hz : P z) (hw : ∀ w ∈ ws, P w.2) : P (lastW ws n z) := by
  unfold lastW
  split
  · rename_i w h; exact hw w (List.mem_reverse.1 (List.mem_of_find?_eq_some h))
  · exact hz
theorem readM_fit {x : Dk} {n : Int} {k : Nat} (h : (∀ y ∈ x.1, y.length ≤ k) ∧ ∀ y ∈ x.2.1, y.2.length ≤ k) : (readM x n).1.length ≤ k := by
  unfold readM
  split
  · rename_i hn
    have := inB_iff.1 hn
    have hi : n.toNat < x.1.length := by omega
    refine lastW_mem (P := fun l => l.length ≤ k) ?_ h.2
    rw [List.getD_eq_getElem?_getD, List.getElem?_eq_getElem hi]
    exact h.1 _ (List.getElem_mem hi)
  · simp
theorem impl_copyBytes.sp {d : Nat} (hd : 1 ≤ d) {l : List Int} (hl : l.length ≤ 140737488351232) : impl_copyBytes.f d l = some l := by
  obtain ⟨d, rfl, _⟩ := dep hd
  rw [impl_copyBytes.t_eq]
  dsimp only [impl_copyBytes.m]
  exact Tells.eq (tp (by simp only [List.length_nil, Nat.zero_add]; omega) (tl rfl))
theorem laws_markByteS.held {d d2 : Nat} (hd : 1 ≤ d) (hd2 : 1 ≤ d2) {l : List Int} {n : Int} (h0 : 0 ≤ n) (hl : l.length ≤ 140737488351232) (hn : n + l.length ≤ 4611686018427387904) :
    Tells (laws_markByteS.f d (l, n)) (fun r => 0 ≤ r.1 ∧ laws_heldByteS.f d2 (r.2, n) = some r.1) :=
  (laws_markByteS.sp hd h0 hl hn).mono fun r hr => ⟨by omega, by rw [laws_heldByteS.sp hd2 h0 (by rw [hr.2.2]; exact hl) (by rw [hr.2.2]; exact hn) hr.2.1, hr.1, hr.2.2]⟩
theorem impl_copyDisk.sp {d : Nat} (hd : 2 ≤ d) {x : Dk} (h : dkSm x) : impl_copyDisk.f d (x.1, x.2.1, x.2.2.1, x.2.2.2.1, x.2.2.2.2) = some x := by
  obtain ⟨d, rfl, _⟩ := dep hd
  rw [impl_copyDisk.t_eq]
  dsimp only [impl_copyDisk.m]
  have a1 := h.1.1
  have a2 := h.2.1.1
  have a3 := h.2.2.1
  refine Tells.eq ?_
  refine loopApp (impl_copyDisk.S0 d) x.1 id (fun st i => (x.1, (x.1.length : Int), i, x.1, x.2.1, x.2.2.1, x.2.2.2.1, x.2.2.2.2, ([] : List (List Int)), ([] : List (Int × List Int)), (0 : Int), ([] : List (Int × Int × Int)), false, st)) _ (by omega) (fun L => ?_) fun L st i Q hi h1 ih => ?_
  · dsimp only [impl_copyDisk.S0, impl_copyDisk.s0]
    refine tn (by omega) ?_
    refine loopApp (impl_copyDisk.S2 d) x.2.1 id (fun st i => (x.2.1, (x.2.1.length : Int), i, x.1, x.2.1, x.2.2.1, x.2.2.2.1, x.2.2.2.2, ([] : List (List Int)), ([] : List (Int × List Int)), (0 : Int), ([] : List (Int × Int × Int)), false, x.1.map id, st)) _ (by omega) (fun L => ?_) fun L st i Q hi h1 ih => ?_
    · dsimp only [impl_copyDisk.S2, impl_copyDisk.s2]
      exact tn (by omega) (tp (by simp only [List.length_nil, Nat.zero_add]; omega) (tl (by simp)))
    · dsimp only [impl_copyDisk.S2, impl_copyDisk.s2]
      have := h.2.1.2 _ (List.getElem_mem hi)
      refine tp (by omega) (ti hi ?_)
      rw [getD_in hi, wrap_succ (by omega)]
      exact tc (impl_copyBytes.sp (by omega) (by omega)) (tp (by simp; omega) ih)
  · dsimp only [impl_copyDisk.S0, impl_copyDisk.s0]
    have := h.1.2 _ (List.getElem_mem hi)
    refine tp (by omega) (ti hi ?_)
    rw [getD_in hi, wrap_succ (by omega)]
    exact tc (impl_copyBytes.sp (by omega) (by omega)) (tp (by simp; omega) ih)
theorem spec_l12Copy.sp {d : Nat} (hd : 1 ≤ d) {x : Dk} (h : dkSm x) : spec_l12Copy.f d (x.1, x.2.1, x.2.2.1, x.2.2.2.1, x.2.2.2.2) = some x := by
  obtain ⟨d, rfl, _⟩ := dep hd
  rw [spec_l12Copy.t_eq]
  dsimp only [spec_l12Copy.m]
  have a1 := h.1.1
  have a2 := h.2.1.1
  have a3 := h.2.2.1
  refine Tells.eq (tp (by simp only [List.length_nil, Nat.zero_add]; omega) ?_)
  refine loopApp (spec_l12Copy.S0 d) x.1 id (fun st i => (i, x.1, x.2.1, x.2.2.1, x.2.2.2.1, x.2.2.2.2, ([] : List (List Int)), ([] : List (Int × List Int)), (0 : Int), ([] : List (Int × Int × Int)), false, st, ([] : List (Int × List Int)), x.2.2.1, ([] : List (Int × Int × Int)) ++ x.2.2.2.1, x.2.2.2.2)) _ (by omega) (fun L => ?_) fun L st i Q hi h1 ih => ?_
  · dsimp only [spec_l12Copy.S0, spec_l12Copy.s0]
    refine tn (by omega) ?_
    refine loopApp (spec_l12Copy.S2 d) x.2.1 id (fun st i => (i, x.1, x.2.1, x.2.2.1, x.2.2.2.1, x.2.2.2.2, ([] : List (List Int)), ([] : List (Int × List Int)), (0 : Int), ([] : List (Int × Int × Int)), false, x.1.map id, st, x.2.2.1, ([] : List (Int × Int × Int)) ++ x.2.2.2.1, x.2.2.2.2)) _ (by omega) (fun L => ?_) fun L st i Q hi h1 ih => ?_
    · dsimp only [spec_l12Copy.S2, spec_l12Copy.s2]
      exact tn (by omega) (tl (by simp))
    · dsimp only [spec_l12Copy.S2, spec_l12Copy.s2]
      have := h.2.1.2 _ (List.getElem_mem hi)
      refine tp (by omega) (ti hi (ti hi ?_))
      rw [getD_in hi, wrap_succ (by omega)]
      exact tp (by simp only [List.length_nil, Nat.zero_add]; omega) (tp (by simp; omega) (by simpa using ih))
  · dsimp only [spec_l12Copy.S0, spec_l12Copy.s0]
    have := h.1.2 _ (List.getElem_mem hi)
    refine tp (by omega) (ti hi ?_)
    rw [getD_in hi, wrap_succ (by omega)]
    exact tp (by simp only [List.length_nil, Nat.zero_add]; omega) (tp (by simp; omega) (by simpa using ih))
def onM (x : Dk) : Dk := (x.1, x.2.1, x.2.2.1, x.2.2.2.1, false)
theorem laws_markDisk.sum {d : Nat} (hd : 3 ≤ d) {x : Dk} {n : Int} (h0 : 0 ≤ n) (hf : dkFit x) (hn : n + dkW x ≤ 4611686018427387904) :
    Tells (laws_markDisk.f d (x.1, x.2.1, x.2.2.1, x.2.2.2.1, x.2.2.2.2, n)) (fun r => r.1 = n + dkW x) := by
  obtain ⟨d, rfl, _⟩ := dep hd
  rw [laws_markDisk.t_eq]
  dsimp only [laws_markDisk.m]
  unfold dkW at hn ⊢
  refine tb (laws_markByteSS.sp (by omega) h0 hf.1.1 hf.1.2 (by omega)) fun a ha => ?_
  refine tb (laws_markWriteS.sp (by omega) (by omega) hf.2.1.1 (by omega) hf.2.1.2) fun b hb => ?_
  exact tb (laws_markFaultS.sp (by omega) (by omega) hf.2.2 (by omega)) fun c hc => tl (by omega)
theorem spec_DiskOk.sp {d : Nat} (hd : 3 ≤ d) {ss : List (List Int)} {ws : List (Int × List Int)} {p : Int} {fs : List (Int × Int × Int)} {on : Bool} (h1 : ss.length ≤ 1048576) (h2 : ws.length ≤ 1048576) (h3 : fs.length ≤ 1048576) :
    spec_DiskOk.f d (ss, ws, p, fs, on) = some (diskOkM ss ws p fs on) := by
  obtain ⟨d, rfl, _⟩ := dep hd
  rw [spec_DiskOk.t_eq]
  dsimp only [spec_DiskOk.m]
  refine Tells.eq ?_
  have := loopAll (spec_DiskOk.S0 d) ss (fun i => (i, ss, ws, p, fs, on)) secOk (ws.all (wrOk ss.length) && (inB ss.length 4 48 && (decide ((ws.length : Int) ≤ 60) && (inB p 0 100000 && (faultsOkM fs && (!on || decide (ws.length = 0))))))) (by omega) (fun L => ?_) fun L i hi e ih => ?_
  · refine this.mono fun r hr => ?_
    rw [hr]; unfold diskOkM; simp only [Bool.and_assoc]
  · dsimp only [spec_DiskOk.S0, spec_DiskOk.s0]
    refine tn (by omega) ?_
    refine loopAll (spec_DiskOk.S2 d) ws (fun i => (i, ss, ws, p, fs, on)) (wrOk ss.length) _ (by omega) (fun L => ?_) fun L i hi e ih => ?_
    · dsimp only [spec_DiskOk.S2, spec_DiskOk.s2]
      refine tn (by omega) (tc (spec_l1In.sp (by omega) _ _ _) (tbif (fun c => ?_) fun c => tl (by rw [c]; rfl)))
      rw [c, Bool.true_and]
      refine tif (fun c2 => ?_) fun c2 => tl (by rw [decide_eq_false c2]; rfl)
      rw [decide_eq_true c2, Bool.true_and]
      refine tc (spec_l1In.sp (by omega) _ _ _) (tbif (fun c => ?_) fun c => tl (by rw [c]; rfl))
      rw [c, Bool.true_and]
      refine tc (spec_l12Faults.sp (by omega) h3) (tbif (fun c => ?_) fun c => tl (by rw [c]; rfl))
      rw [c, Bool.true_and]
      refine tbif (fun c => tl (by simp at c; rw [c]; rfl)) fun c => tl ?_
      simp only [Bool.not_eq_false'] at c
      rw [c, Bool.eq_iff_iff]
      simp
    · dsimp only [spec_DiskOk.S2, spec_DiskOk.s2]
      refine tp (by omega) (ti hi ?_)
      rw [getD_in hi, wrap_succ (by omega), wrap_id (by omega) (by omega)]
      refine tc (spec_l1In.sp (by omega) _ _ _) (tbif (fun c => tl (by simp at c; simp [wrOk, c])) fun c => ti hi ?_)
      simp only [Bool.not_eq_false'] at c
      refine tif (fun c2 => tl (by simp [wrOk]; omega)) fun c2 => ih.mono fun r hr => ?_
      rw [hr, wrOk, c, decide_eq_true (by omega)]; rfl
  · dsimp only [spec_DiskOk.S0, spec_DiskOk.s0]
    refine tp (by omega) (ti hi ?_)
    rw [getD_in hi, wrap_succ (by omega)]
    refine tif (fun c2 => tl (by simp [secOk]; omega)) fun c2 => ih.mono fun r hr => ?_
    rw [hr, secOk, decide_eq_true (by omega)]; rfl
def faultM (fs : List (Int × Int × Int)) (p : Int) : Int × Int × Int × Bool := match fs.find? (fun f => f.1 == p) with
  | some f => (f.1, f.2.1, f.2.2, true)
  | none => (0, 0, 0, false)
theorem faultM_cons {f : Int × Int × Int} {r : List (Int × Int × Int)} {p : Int} : faultM (f :: r) p = if f.1 = p then (f.1, f.2.1, f.2.2, true) else faultM r p := by
  unfold faultM
  rw [List.find?_cons]
  by_cases h : f.1 = p
  · rw [if_pos h, show (f.1 == p) = true by simpa using h]
  · rw [if_neg h, show (f.1 == p) = false by simpa using h]
theorem faultM_mem {fs : List (Int × Int × Int)} {p : Int} (h : (faultM fs p).2.2.2 = true) : ((faultM fs p).1, (faultM fs p).2.1, (faultM fs p).2.2.1) ∈ fs := by
  unfold faultM at h ⊢
  cases hf : fs.find? (fun f => f.1 == p) with
  | none => rw [hf] at h; cases h
  | some f => exact List.mem_of_find?_eq_some hf
theorem spec_l12Fault.sp {d : Nat} (hd : 1 ≤ d) {x : Dk} (h : dkFit x) : spec_l12Fault.f d (x.1, x.2.1, x.2.2.1, x.2.2.2.1, x.2.2.2.2) = some (faultM x.2.2.2.1 x.2.2.1) := by
  obtain ⟨d, rfl, _⟩ := dep hd
  rw [spec_l12Fault.t_eq]
  dsimp only [spec_l12Fault.m]
  have hl := h.2.2
  refine Tells.eq ?_
  refine loopE (spec_l12Fault.S0 d) x.2.2.2.1.length (fun i => (i, x.1, x.2.1, x.2.2.1, x.2.2.2.1, x.2.2.2.2, 0, 0, 0)) (fun i r => r = faultM (x.2.2.2.1.drop i) x.2.2.1) (by omega) (fun L => ?_) fun L i hi ih => ?_
  · dsimp only [spec_l12Fault.S0, spec_l12Fault.s0]
    exact tn (by omega) (tl (by simp [faultM]))
  · dsimp only [spec_l12Fault.S0, spec_l12Fault.s0]
    rw [drop_at hi, faultM_cons, getD_in hi, wrap_succ (by omega)]
    refine tp (by omega) (ti hi (tbif (fun c => ti hi (tl ?_)) fun c => ?_))
    · rw [if_pos (by simpa using c)]
    · rw [if_neg (by simpa using c)]; exact ih
theorem impl_Disk_fault.sp {d : Nat} (hd : 1 ≤ d) {x : Dk} (h : dkFit x) : impl_Disk_fault.f d (x.1, x.2.1, x.2.2.1, x.2.2.2.1, x.2.2.2.2) = some ((faultM x.2.2.2.1 x.2.2.1).1, (faultM x.2.2.2.1 x.2.2.1).2.1, (faultM x.2.2.2.1 x.2.2.1).2.2.1, (faultM x.2.2.2.1 x.2.2.1).2.2.2, x) := by
  obtain ⟨d, rfl, _⟩ := dep hd
  rw [impl_Disk_fault.t_eq]
  dsimp only [impl_Disk_fault.m]
  have hl := h.2.2
  refine Tells.eq ?_
  refine loopE (impl_Disk_fault.S0 d) x.2.2.2.1.length (fun i => ((x.2.2.2.1.length : Int), i, x.1, x.2.1, x.2.2.1, x.2.2.2.1, x.2.2.2.2, 0, 0, 0)) (fun i r => r = ((faultM (x.2.2.2.1.drop i) x.2.2.1).1, (faultM (x.2.2.2.1.drop i) x.2.2.1).2.1, (faultM (x.2.2.2.1.drop i) x.2.2.1).2.2.1, (faultM (x.2.2.2.1.drop i) x.2.2.1).2.2.2, x)) (by omega) (fun L => ?_) fun L i hi ih => ?_
  · dsimp only [impl_Disk_fault.S0, impl_Disk_fault.s0]
    exact tn (by omega) (tl (by simp [faultM]))
  · dsimp only [impl_Disk_fault.S0, impl_Disk_fault.s0]
    rw [drop_at hi, faultM_cons, getD_in hi, wrap_succ (by omega)]
    refine tp (by omega) (ti hi (tbif (fun c => tl ?_) fun c => ?_))
    · rw [if_pos (by simpa using c)]
    · rw [if_neg (by simpa using c)]; exact ih
def applyW : List (List Int) → List (Int × List Int) → List (List Int)
  | ss, [] => ss
  | ss, w :: r => applyW (ss.set w.1.toNat w.2) r
theorem applyW_snoc : ∀ {ws : List (Int × List Int)} {ss : List (List Int)} {w : Int × List Int}, applyW ss (ws ++ [w]) = (applyW ss ws).set w.1.toNat w.2
  | [], _, _ => rfl
  | _ :: r, ss, w => applyW_snoc (ws := r)
theorem applyW_len : ∀ {ws : List (Int × List Int)} {ss : List (List Int)}, (applyW ss ws).length = ss.length
  | [], _ => rfl
  | w :: r, ss => by rw [applyW, applyW_len (ws := r), List.length_set]
theorem applyW_all {P : List Int → Prop} : ∀ {ws : List (Int × List Int)} {ss : List (List Int)}, (∀ y ∈ ss, P y) → (∀ w ∈ ws, P w.2) → ∀ y ∈ applyW ss ws, P y
  | [], _, h, _ => h
  | w :: r, ss, h, hw => applyW_all (ws := r) (fun y hy => by
      rcases List.mem_or_eq_of_mem_set hy with h1 | h1
      · exact h y h1
      · rw [h1]; exact hw w (by simp)) fun x hx => hw x (by simp [hx])
/-- sectors that are there, rows that memory holds -/
def wrIn (n : Nat) (ws : List (Int × List Int)) : Prop := ∀ w ∈ ws, 0 ≤ w.1 ∧ w.1 < n ∧ w.2.length ≤ 1048576
theorem impl_Disk_settle.sp {d : Nat} (hd : 2 ≤ d) {ss : List (List Int)} {ws : List (Int × List Int)} {p : Int} {fs : List (Int × Int × Int)} {on : Bool} (hl : ws.length ≤ 1048576) (hw : wrIn ss.length ws) :
    impl_Disk_settle.f d (ss, ws, p, fs, on) = some (applyW ss ws, [], p, fs, on) := by
  obtain ⟨d, rfl, _⟩ := dep hd
  rw [impl_Disk_settle.t_eq]
  dsimp only [impl_Disk_settle.m]
  refine Tells.eq ?_
  refine loop0 (σ := List (List Int)) (impl_Disk_settle.S0 d) ws.length (fun st i => ((ws.length : Int), i, st, ws, p, fs, on)) (fun st i => st = applyW ss (ws.take i)) (fun _ _ r => r = (applyW ss ws, [], p, fs, on)) ss (by omega) rfl ?_ ?_
  · rintro L st rfl
    dsimp only [impl_Disk_settle.S0, impl_Disk_settle.s0]
    exact tn (by omega) (tl (by rw [List.take_length]))
  · rintro L st i rfl hi ih
    dsimp only [impl_Disk_settle.S0, impl_Disk_settle.s0]
    obtain ⟨w1, w2, w3⟩ := hw _ (List.getElem_mem hi)
    rw [getD_in hi, wrap_succ (by omega)]
    refine tp (by omega) (ti hi (tc (impl_copyBytes.sp (by omega) (by omega)) (tt ?_ (ih _ ?_))))
    · rw [applyW_len, decide_eq_true w1, decide_eq_true w2]; rfl
    · rw [List.take_add_one, List.getElem?_eq_getElem hi, Option.toList_some, applyW_snoc]
/-- the mask's bit -/
def bitM (m : Int) (i : Nat) : Int := IntKind.wrap IntKind.i64 ((BitVec.ofInt (IntKind.bits IntKind.i64) (Int.fdiv m (2 ^ (min i (IntKind.bits IntKind.i64)))) &&& BitVec.ofInt (IntKind.bits IntKind.i64) (1 : Int)).toNat : Int)
theorem bitM_one (m : Int) (i : Nat) : bitM m i = 0 ∨ bitM m i = 1 := by
  unfold bitM
  have h : (BitVec.ofInt (IntKind.bits IntKind.i64) (Int.fdiv m (2 ^ (min i (IntKind.bits IntKind.i64)))) &&& BitVec.ofInt (IntKind.bits IntKind.i64) (1 : Int)).toNat ≤ 1 := by
    rw [BitVec.toNat_and]
    exact Nat.and_le_right
  rw [wrap_id (by omega) (by omega)]
  omega
def isKept (m : Int) (i : Nat) : Bool := decide (i < 20) && (bitM m i == 1)
def keptW (m : Int) (ws : List (Int × List Int)) : Nat → List (Int × List Int)
  | 0 => []
  | n + 1 => keptW m ws n ++ (if isKept m n = true then (match ws[n]? with | some w => [w] | none => []) else [])
theorem keptW_len {m : Int} {ws : List (Int × List Int)} : ∀ {n : Nat}, (keptW m ws n).length ≤ n
  | 0 => Nat.le_refl _
  | n + 1 => by
    have := keptW_len (m := m) (ws := ws) (n := n)
    simp only [keptW, List.length_append]
    have h : (if isKept m n = true then (match ws[n]? with | some w => [w] | none => []) else []).length ≤ 1 := by
      split
      · split <;> simp
      · simp
    omega
theorem keptW_mem {m : Int} {ws : List (Int × List Int)} : ∀ {n : Nat} {w : Int × List Int}, w ∈ keptW m ws n → w ∈ ws
  | 0, w, h => by cases h
  | n + 1, w, h => by
    simp only [keptW, List.mem_append] at h
    rcases h with h | h
    · exact keptW_mem h
    · split at h
      · split at h
        · rename_i w' hw
          simp only [List.mem_singleton] at h
          rw [h]; exact List.mem_of_getElem? hw
        · cases h
      · cases h
theorem keptW_same {m : Int} {ws : List (Int × List Int)} {n : Nat} : ∀ k, (∀ j, n ≤ j → isKept m j = false ∨ ws.length ≤ j) → keptW m ws (n + k) = keptW m ws n
  | 0, _ => rfl
  | k + 1, h => by
    rw [← Nat.add_assoc]
    simp only [keptW]
    rw [keptW_same k h]
    rcases h (n + k) (by omega) with h1 | h1
    · rw [h1]; simp
    · rw [List.getElem?_eq_none h1]; simp
/-- the last one is cut -/
def cutW (c : Int) (w : Int × List Int) : Int × List Int := (w.1, w.2.take c.toNat)
def cutLast (c : Int) (l : List (Int × List Int)) : List (Int × List Int) := match l.getLast? with
  | none => []
  | some w => l.dropLast ++ [cutW c w]
theorem cutLast_snoc {c : Int} {l : List (Int × List Int)} {w : Int × List Int} : cutLast c (l ++ [w]) = l ++ [cutW c w] := by
  unfold cutLast
  rw [List.getLast?_concat, List.dropLast_concat]
def loseM (x : Dk) (m c : Int) : Dk := (applyW x.1 (cutLast c (keptW m x.2.1 x.2.1.length)), [], x.2.2.1, x.2.2.2.1, true)
theorem take_min {l : List Int} {c : Int} (h : 0 ≤ c) : l.take (Int.toNat (bif decide ((l.length : Int) < c) then (l.length : Int) else c)) = l.take c.toNat := by
  by_cases hc : (l.length : Int) < c
  · rw [decide_eq_true hc, cond_true, Int.toNat_natCast, List.take_length, List.take_of_length_le (by omega)]
  · rw [decide_eq_false hc, cond_false]
theorem impl_Disk_lose.sp {d : Nat} (hd : 3 ≤ d) {x : Dk} {p m c : Int} (hl : x.2.1.length ≤ 1048576) (hw : wrIn x.1.length x.2.1) (hc : 0 ≤ c) : impl_Disk_lose.f d (x.1, x.2.1, x.2.2.1, x.2.2.2.1, x.2.2.2.2, p, m, c) = some (loseM x m c) := by
  obtain ⟨d, rfl, _⟩ := dep hd
  rw [impl_Disk_lose.t_eq]
  dsimp only [impl_Disk_lose.m]
  refine Tells.eq ?_
  refine loop0 (σ := List (Int × List Int)) (impl_Disk_lose.S0 d) x.2.1.length (fun st i => ((x.2.1.length : Int), i, x.1, x.2.1, x.2.2.1, x.2.2.2.1, x.2.2.2.2, p, m, c, st)) (fun st i => st = keptW m x.2.1 i) (fun _ _ r => r = loseM x m c) [] (by omega) rfl ?_ ?_
  · rintro L st rfl
    dsimp only [impl_Disk_lose.S0, impl_Disk_lose.s0]
    refine tn (by omega) ?_
    have hk := keptW_len (m := m) (ws := x.2.1) (n := x.2.1.length)
    have hin : ∀ w ∈ keptW m x.2.1 x.2.1.length, 0 ≤ w.1 ∧ w.1 < x.1.length ∧ w.2.length ≤ 1048576 := fun w h => hw w (keptW_mem h)
    unfold loseM
    revert hin hk
    generalize keptW m x.2.1 x.2.1.length = ks
    intro hk hin
    refine tif (fun h => ?_) fun h => ?_
    · have hne : ks ≠ [] := by rintro rfl; simp at h
      obtain ⟨ls, w, rfl⟩ : ∃ ls w, ks = ls ++ [w] := ⟨ks.dropLast, ks.getLast hne, (List.dropLast_concat_getLast hne).symm⟩
      have e : IntKind.wrap IntKind.i64 (((ls ++ [w]).length : Int) - 1) = ((ls.length : Nat) : Int) := by rw [wrap_id (by omega) (by omega)]; simp
      have hlt : ls.length < (ls ++ [w]).length := by simp
      rw [e, getD_in hlt]
      have ew : (ls ++ [w])[ls.length] = w := by simp
      simp only [ew]
      refine ti hlt (tt ?_ (ti hlt ?_))
      · by_cases hcc : (w.2.length : Int) < c
        · rw [decide_eq_true hcc, cond_true]; simp
        · rw [decide_eq_false hcc, cond_false]; simp; omega
      · have es : List.set (ls ++ [w]) (Int.toNat ((ls.length : Nat) : Int)) (w.1, List.drop (Int.toNat (0 : Int)) (List.take (Int.toNat (bif decide ((w.2.length : Int) < c) then (w.2.length : Int) else c)) w.2)) = cutLast c (ls ++ [w]) := by
          rw [cutLast_snoc, take_min hc, Int.toNat_natCast, List.set_append_right _ _ (Nat.le_refl _)]
          simp [cutW]
        rw [es]
        have hin2 : wrIn x.1.length (cutLast c (ls ++ [w])) := by
          rw [cutLast_snoc]
          intro v hv
          rcases List.mem_append.1 hv with h1 | h1
          · exact hin v (by simp [h1])
          · obtain rfl := List.mem_singleton.1 h1
            obtain ⟨a, b, e⟩ := hin w (by simp)
            exact ⟨a, b, by simp only [cutW, List.length_take]; omega⟩
        refine tc (impl_Disk_settle.sp (by omega) ?_ hin2) (tl rfl)
        rw [cutLast_snoc]
        simp only [List.length_append, List.length_singleton] at hk ⊢
        omega
    · obtain rfl : ks = [] := by cases ks with | nil => rfl | cons a b => simp at h
      refine tc (impl_Disk_settle.sp (by omega) (by simp) (fun v hv => by cases hv)) (tl rfl)
  · rintro L st i rfl hi ih
    dsimp only [impl_Disk_lose.S0, impl_Disk_lose.s0]
    rw [getD_in hi, wrap_succ (by omega), Int.toNat_natCast]
    have hk := keptW_len (m := m) (ws := x.2.1) (n := i)
    refine tp (by omega) (ti hi (tif (fun c1 => tp (by omega) (tbif (fun c2 => tp ?_ (ih _ ?_)) fun c2 => ih _ ?_)) fun c1 => ih _ ?_))
    · simp only [List.length_cons, List.length_nil]; omega
    · have e : isKept m i = true := by unfold isKept bitM; rw [c2, decide_eq_true (by omega)]; rfl
      simp only [keptW, e, if_true, List.getElem?_eq_getElem hi]
    · have e : isKept m i = false := by unfold isKept bitM; rw [c2]; simp
      simp only [keptW, e, Bool.false_eq_true, if_false, List.append_nil]
    · have e : isKept m i = false := by unfold isKept; rw [decide_eq_false (by omega)]; rfl
      simp only [keptW, e, Bool.false_eq_true, if_false, List.append_nil]
theorem wrap_u64 {i : Nat} (h : i < 4611686018427387904) : IntKind.wrap IntKind.u64 (i : Int) = (i : Int) := by
  have e : (2 : Int) ^ 64 = 18446744073709551616 := by decide
  simp only [IntKind.wrap, IntKind.signed, IntKind.bits, Bool.false_and, Bool.false_eq_true, if_false, e]
  omega
theorem keptW_at {m : Int} {ws : List (Int × List Int)} {j : Nat} (h : j < ws.length) (hk : isKept m j = true) : keptW m ws (j + 1) = keptW m ws j ++ [ws[j]] := by
  simp only [keptW, hk, if_true, List.getElem?_eq_getElem h]
theorem keptW_not {m : Int} {ws : List (Int × List Int)} {j : Nat} (hk : isKept m j = false) : keptW m ws (j + 1) = keptW m ws j := by
  simp only [keptW, hk, Bool.false_eq_true, if_false, List.append_nil]
theorem spec_l12Lose.sp {d : Nat} (hd : 1 ≤ d) {x : Dk} {p m c : Int} (hl : x.2.1.length ≤ 1048576) (hw : wrIn x.1.length x.2.1) (hc : 0 ≤ c) : spec_l12Lose.f d (x.1, x.2.1, x.2.2.1, x.2.2.2.1, x.2.2.2.2, p, m, c) = some (loseM x m c) := by
  obtain ⟨d, rfl, _⟩ := dep hd
  rw [spec_l12Lose.t_eq]
  dsimp only [spec_l12Lose.m]
  refine Tells.eq ?_
  have hall : keptW m x.2.1 x.2.1.length = keptW m x.2.1 (min x.2.1.length 20) := by
    have h := keptW_same (m := m) (ws := x.2.1) (n := min x.2.1.length 20) (x.2.1.length - min x.2.1.length 20) fun j hj => by
      by_cases h20 : j < 20
      · exact .inr (by omega)
      · exact .inl (by unfold isKept; rw [decide_eq_false h20]; rfl)
    rwa [show min x.2.1.length 20 + (x.2.1.length - min x.2.1.length 20) = x.2.1.length by omega] at h
  -- the second round over the writes
  have two : ∀ st : Int, ((st = -1 ∧ keptW m x.2.1 x.2.1.length = []) ∨ ∃ j : Nat, st = j ∧ j < 20 ∧ j < x.2.1.length ∧ isKept m j = true ∧ keptW m x.2.1 x.2.1.length = keptW m x.2.1 (j + 1)) →
      Tells (iter (spec_l12Lose.S2 d) rnds (st, (0 : Int), x.1, x.2.1, x.2.2.1, x.2.2.2.1, x.2.2.2.2, p, m, c)) (· = loseM x m c) := by
    rintro st (⟨rfl, h⟩ | ⟨j, rfl, hj20, hj, hkj, h⟩)
    · refine loop0 (σ := Unit) (spec_l12Lose.S2 d) 0 (fun _ i => (-1, i, x.1, x.2.1, x.2.2.1, x.2.2.2.1, x.2.2.2.2, p, m, c)) (fun _ _ => True) (fun _ _ r => r = loseM x m c) () (by omega) trivial ?_ ?_
      · rintro L _ _
        dsimp only [spec_l12Lose.S2, spec_l12Lose.s2]
        exact tn (by omega) (tl (by unfold loseM; rw [h]; rfl))
      · intro _ _ i _ hi; cases hi
    · refine loop0 (σ := List (List Int)) (spec_l12Lose.S2 d) (j + 1) (fun st i => (j, i, st, x.2.1, x.2.2.1, x.2.2.2.1, x.2.2.2.2, p, m, c)) (fun st i => st = if i ≤ j then applyW x.1 (keptW m x.2.1 i) else applyW x.1 (cutLast c (keptW m x.2.1 (j + 1)))) (fun _ _ r => r = loseM x m c) x.1 (by omega) (by rw [if_pos (Nat.zero_le _)]; rfl) ?_ ?_
      · rintro L st rfl
        dsimp only [spec_l12Lose.S2, spec_l12Lose.s2]
        rw [if_neg (by omega)]
        exact tn (by omega) (tl (by unfold loseM; rw [h]))
      · rintro L st i rfl hi ih
        have hi' : i < x.2.1.length := by omega
        obtain ⟨w1, w2, w3⟩ := hw _ (List.getElem_mem hi')
        have hlen : (applyW x.1 (keptW m x.2.1 i)).length = x.1.length := applyW_len
        dsimp only [spec_l12Lose.S2, spec_l12Lose.s2]
        rw [if_pos (by omega), getD_in hi', wrap_succ (by omega), wrap_u64 (by omega), Int.toNat_natCast]
        refine tp (by omega) (ti hi' (tp (by omega) (tbif (fun c0 => ih _ ?_) fun c0 => ?_)))
        · have hb : isKept m i = false := by
            unfold isKept bitM
            have : (IntKind.wrap IntKind.i64 ((BitVec.ofInt (IntKind.bits IntKind.i64) (Int.fdiv m (2 ^ (min i (IntKind.bits IntKind.i64)))) &&& BitVec.ofInt (IntKind.bits IntKind.i64) (1 : Int)).toNat : Int)) = 0 := by simpa using c0
            rw [this]; simp
          have hne : i ≠ j := by rintro rfl; rw [hkj] at hb; cases hb
          rw [if_pos (by omega), keptW_not hb]
        · have hb : isKept m i = true := by
            have h1 := bitM_one m i
            unfold isKept
            rw [decide_eq_true (by omega)]
            unfold bitM at h1 ⊢
            rcases h1 with h1 | h1
            · rw [h1] at c0; cases c0
            · rw [h1]; rfl
          refine tbif (fun c1 => ?_) fun c1 => ?_
          · have e : i = j := by have := of_decide_eq_true c1; omega
            subst e
            refine tif (fun c2 => tt ?_ (tp ?_ (tt ?_ (ih _ ?_)))) fun c2 => tp ?_ (tt ?_ (ih _ ?_))
            · simp; omega
            · simp; omega
            · rw [hlen, decide_eq_true w1, decide_eq_true w2]; rfl
            · rw [if_neg (by omega), keptW_at hi' hb, cutLast_snoc, applyW_snoc]
              simp [cutW]
            · simp; omega
            · rw [hlen, decide_eq_true w1, decide_eq_true w2]; rfl
            · rw [if_neg (by omega), keptW_at hi' hb, cutLast_snoc, applyW_snoc]
              simp only [cutW, List.nil_append]
              rw [List.take_of_length_le (by omega)]
          · have e : i ≠ j := by rintro rfl; simp at c1
            refine tp ?_ (tt ?_ (ih _ ?_))
            · simp; omega
            · rw [hlen, decide_eq_true w1, decide_eq_true w2]; rfl
            · rw [if_pos (by omega), keptW_at hi' hb, applyW_snoc, List.nil_append]
  refine loop0 (σ := Int) (spec_l12Lose.S0 d) (min x.2.1.length 20) (fun st i => (st, i, x.1, x.2.1, x.2.2.1, x.2.2.2.1, x.2.2.2.2, p, m, c))
    (fun st i => (st = -1 ∧ keptW m x.2.1 i = []) ∨ ∃ j : Nat, st = j ∧ j < i ∧ isKept m j = true ∧ keptW m x.2.1 i = keptW m x.2.1 (j + 1)) (fun _ _ r => r = loseM x m c) (-1) (by omega) (.inl ⟨rfl, rfl⟩) ?_ ?_
  · rintro L st hI
    have h2 := two st (by
      rcases hI with ⟨h1, h2⟩ | ⟨j, h1, h2, h3, h4⟩
      · exact .inl ⟨h1, by rw [hall]; exact h2⟩
      · exact .inr ⟨j, h1, by omega, by omega, h3, by rw [hall]; exact h4⟩)
    dsimp only [spec_l12Lose.S0, spec_l12Lose.s0]
    exact tif (fun c1 => tn (by omega) h2) fun _ => h2
  · rintro L st i hI hi ih
    dsimp only [spec_l12Lose.S0, spec_l12Lose.s0]
    rw [wrap_succ (by omega), wrap_u64 (by omega), Int.toNat_natCast]
    refine tp (by omega) (tp (by omega) (tp (by omega) (tbif (fun c1 => ih _ ?_) fun c1 => ih _ ?_)))
    · have hb : isKept m i = true := by unfold isKept bitM; rw [c1, decide_eq_true (by omega)]; rfl
      exact .inr ⟨i, rfl, by omega, hb, rfl⟩
    · have hb : isKept m i = false := by unfold isKept bitM; rw [c1]; simp
      rw [keptW_not hb]
      rcases hI with h1 | ⟨j, h1, h2, h3, h4⟩
      · exact .inl h1
      · exact .inr ⟨j, h1, by omega, h3, h4⟩
def dkGood (x : Dk) : Prop := dkSm x ∧ wrIn x.1.length x.2.1 ∧ (∀ f ∈ x.2.2.2.1, 0 ≤ f.2.2) ∧ x.2.2.1 ≤ 1000000000 ∧ -1000000000 ≤ x.2.2.1
def pulsed (x : Dk) : Dk := (x.1, x.2.1, x.2.2.1 + 1, x.2.2.2.1, x.2.2.2.2)
def flushM (x : Dk) : Int × Dk :=
  if x.2.2.2.2 = true then (9, x) else if x.2.2.1 ≥ 100000 then (9, x)
  else if (faultM x.2.2.2.1 x.2.2.1).2.2.2 = true then (9, loseM (pulsed x) (faultM x.2.2.2.1 x.2.2.1).2.1 (faultM x.2.2.2.1 x.2.2.1).2.2.1)
  else (0, applyW x.1 x.2.1, [], x.2.2.1 + 1, x.2.2.2.1, x.2.2.2.2)
theorem diskOk_good {x : Dk} (sm : dkSm x) (h : diskOkM x.1 x.2.1 x.2.2.1 x.2.2.2.1 x.2.2.2.2 = true) : dkGood x := by
  unfold diskOkM at h
  simp only [Bool.and_eq_true] at h
  obtain ⟨⟨⟨⟨⟨⟨h1, h2⟩, h3⟩, h4⟩, h5⟩, h6⟩, h7⟩ := h
  have hp := inB_iff.1 h5
  refine ⟨sm, fun w hw => ?_, fun f hf => ?_, by omega, by omega⟩
  · have := List.all_eq_true.1 h2 w hw
    unfold wrOk at this
    simp only [Bool.and_eq_true, decide_eq_true_eq] at this
    have hi := inB_iff.1 this.1
    exact ⟨by omega, by omega, by omega⟩
  · unfold faultsOkM at h6
    simp only [Bool.and_eq_true] at h6
    have key : ∀ (l : List (Int × Int × Int)) (o : Option (Int × Int × Int)), faultsM o l = true → ∀ f ∈ l, 0 ≤ f.2.2 := by
      intro l
      induction l with
      | nil => intro _ _ f hf; cases hf
      | cons a r ih =>
        intro o ho f hf
        simp only [faultsM, Bool.and_eq_true] at ho
        obtain ⟨ha, hr⟩ := ho
        rcases List.mem_cons.1 hf with rfl | hf
        · unfold fOk at ha
          simp only [Bool.and_eq_true] at ha
          exact (inB_iff.1 ha.2.2).1
        · cases o with
          | none => exact ih _ hr f hf
          | some y =>
            simp only [Bool.and_eq_true] at hr
            exact ih _ hr.2 f hf
    exact key _ _ h6.1 f hf
/-- what the document says of a call that may not be: its code -/
def mayM (x : Dk) : Int := if diskOkM x.1 x.2.1 x.2.2.1 x.2.2.2.1 x.2.2.2.2 = true then (if x.2.2.2.2 = true then 9 else if x.2.2.1 ≥ 100000 then 9 else 0) else 1
def flushAll (x : Dk) : (List (List Int)) × (List (Int × (List Int))) × Int × (List (Int × Int × Int)) × Bool × Int :=
  if diskOkM x.1 x.2.1 x.2.2.1 x.2.2.2.1 x.2.2.2.2 = true then ((flushM x).2.1, (flushM x).2.2.1, (flushM x).2.2.2.1, (flushM x).2.2.2.2.1, (flushM x).2.2.2.2.2, (flushM x).1) else (x.1, x.2.1, x.2.2.1, x.2.2.2.1, x.2.2.2.2, 1)
theorem wSum_le {β : Type} {w : β → Nat} {k : Nat} : ∀ {l : List β}, (∀ x ∈ l, w x ≤ k) → wSum w l ≤ l.length * k
  | [], _ => Nat.zero_le _
  | x :: l, h => by
    have := wSum_le (l := l) fun y hy => h y (by simp [hy])
    have h0 := h x (by simp)
    rw [wSum_cons, List.length_cons, Nat.add_mul]
    omega
/-- rows and numbers of a size that may be marked -/
def dkB (x : Dk) : Prop := (x.1.length ≤ 1048577 ∧ ∀ y ∈ x.1, y.length ≤ 1048577) ∧ (x.2.1.length ≤ 1048577 ∧ ∀ y ∈ x.2.1, y.2.length ≤ 1048577) ∧ x.2.2.2.1.length ≤ 1048577
theorem dkB.fit {x : Dk} (h : dkB x) : dkFit x := ⟨⟨by have := h.1.1; omega, fun y hy => by have := h.1.2 y hy; omega⟩, ⟨by have := h.2.1.1; omega, fun y hy => by have := h.2.1.2 y hy; omega⟩, by have := h.2.2; omega⟩
theorem dkB.wide {x : Dk} (h : dkB x) : dkW x ≤ 4000000000000000 := by
  unfold dkW
  have h1 := wSum_le (w := List.length) (k := 1048577) h.1.2
  have h2 := wSum_le (w := ww) (k := 1048578) (l := x.2.1) fun y hy => by have := h.2.1.2 y hy; unfold ww; omega
  have h3 := sum_three x.2.2.2.1
  have a1 : x.1.length * 1048577 ≤ 1048577 * 1048577 := Nat.mul_le_mul_right _ h.1.1
  have a2 : x.2.1.length * 1048578 ≤ 1048577 * 1048578 := Nat.mul_le_mul_right _ h.2.1.1
  have a3 := h.2.2
  omega
theorem dkSm.b {x : Dk} (h : dkSm x) : dkB x := ⟨⟨by have := h.1.1; omega, fun y hy => by have := h.1.2 y hy; omega⟩, ⟨by have := h.2.1.1; omega, fun y hy => by have := h.2.1.2 y hy; omega⟩, by have := h.2.2.1; omega⟩
abbrev Dc := (List (List Int)) × (List (Int × (List Int))) × Int × (List (Int × Int × Int)) × Bool × Int
def dkOf (r : Dc) : Dk := (r.1, r.2.1, r.2.2.1, r.2.2.2.1, r.2.2.2.2.1)
theorem keptW_fit {m : Int} {ws : List (Int × List Int)} {n k : Nat} (h : ∀ w ∈ ws, w.2.length ≤ k) {c : Int} : ∀ w ∈ cutLast c (keptW m ws n), w.2.length ≤ k := by
  intro w hw
  unfold cutLast at hw
  split at hw
  · cases hw
  · rename_i v hv
    have hm := List.mem_of_getLast? hv
    rcases List.mem_append.1 hw with h1 | h1
    · exact h w (keptW_mem (List.dropLast_subset _ h1))
    · obtain rfl := List.mem_singleton.1 h1
      have := h v (keptW_mem hm)
      simp only [cutW, List.length_take]
      omega
theorem loseM_b {x : Dk} {m c : Int} (h : dkB x) : dkB (loseM x m c) :=
  ⟨⟨by unfold loseM; rw [applyW_len]; exact h.1.1, applyW_all h.1.2 (keptW_fit h.2.1.2)⟩, ⟨Nat.zero_le _, fun y hy => by cases hy⟩, h.2.2⟩
theorem flushM_b {x : Dk} (h : dkB x) : dkB (flushM x).2 := by
  unfold flushM
  split
  · exact h
  · split
    · exact h
    · split
      · exact loseM_b (x := pulsed x) h
      · exact ⟨⟨by rw [applyW_len]; exact h.1.1, applyW_all h.1.2 h.2.1.2⟩, ⟨Nat.zero_le _, fun y hy => by cases hy⟩, h.2.2⟩
theorem flushAll_b {x : Dk} (h : dkB x) : dkB (dkOf (flushAll x)) := by
  unfold flushAll
  split
  · exact flushM_b h
  · exact h
theorem laws_eqDisk.selfc {d : Nat} (hd : 4 ≤ d) {r : Dc} (h : dkFit (dkOf r)) : laws_eqDisk.f d (r.1, r.2.1, r.2.2.1, r.2.2.2.1, r.2.2.2.2.1, r.1, r.2.1, r.2.2.1, r.2.2.2.1, r.2.2.2.2.1) = some true := laws_eqDisk.self (x := dkOf r) hd h
def wrote (x : Dk) (n : Int) (b : List Int) : Dk := (x.1, x.2.1 ++ [(n, b)], x.2.2.1 + 1, x.2.2.2.1, x.2.2.2.2)
def writeM (x : Dk) (n : Int) (b : List Int) : Int × Dk :=
  if x.2.2.2.2 = true then (9, x) else if x.2.2.1 ≥ 100000 then (9, x) else if (x.2.1.length : Int) ≥ 60 then (1, x)
  else if (faultM x.2.2.2.1 x.2.2.1).2.2.2 = true then (9, loseM (wrote x n b) (faultM x.2.2.2.1 x.2.2.1).2.1 (faultM x.2.2.2.1 x.2.2.1).2.2.1)
  else (0, wrote x n b)
def packC (r : Int × Dk) : Dc := (r.2.1, r.2.2.1, r.2.2.2.1, r.2.2.2.2.1, r.2.2.2.2.2, r.1)
def writeAll (x : Dk) (n : Int) (b : List Int) : Dc :=
  if diskOkM x.1 x.2.1 x.2.2.1 x.2.2.2.1 x.2.2.2.2 = true ∧ inB n 0 ((x.1.length : Int) - 1) = true ∧ ¬ (b.length : Int) > 256 ∧ ¬ (x.2.1.length : Int) ≥ 60 then packC (writeM x n b) else packC (1, x)
theorem wrote_in {x : Dk} {n : Int} {b : List Int} (hw : wrIn x.1.length x.2.1) (hn : inB n 0 ((x.1.length : Int) - 1) = true) (hb : b.length ≤ 1048576) : wrIn (wrote x n b).1.length (wrote x n b).2.1 := by
  intro w h
  have hi := inB_iff.1 hn
  rcases List.mem_append.1 h with h1 | h1
  · exact hw w h1
  · obtain rfl := List.mem_singleton.1 h1
    exact ⟨hi.1, by unfold wrote; simp only; omega, hb⟩
theorem spec_l12Write.sp {d : Nat} (hd : 2 ≤ d) {x : Dk} (h : dkGood x) {n : Int} {b : List Int} (hn : inB n 0 ((x.1.length : Int) - 1) = true) (hb : b.length ≤ 1048576) : spec_l12Write.f d (x.1, x.2.1, x.2.2.1, x.2.2.2.1, x.2.2.2.2, n, b) = some (writeM x n b) := by
  obtain ⟨d, rfl, _⟩ := dep hd
  rw [spec_l12Write.t_eq]
  dsimp only [spec_l12Write.m]
  obtain ⟨sm, hw, hf, hp1, hp2⟩ := h
  unfold writeM
  refine Tells.eq (tbif (fun c1 => tl (by rw [if_pos c1])) fun c1 => ?_)
  rw [if_neg (by rw [c1]; simp)]
  refine tif (fun c2 => tl (by rw [if_pos c2])) fun c2 => ?_
  rw [if_neg c2]
  refine tif (fun c3 => tl (by rw [if_pos c3])) fun c3 => ?_
  rw [if_neg c3, wrap_id (by omega) (by omega)]
  refine tc (spec_l12Fault.sp (by omega) sm.fit) (tp (by simp; omega) (tp (by simp; omega) (tbif (fun c3 => ?_) fun c3 => ?_)))
  · rw [if_pos c3]
    exact tc (spec_l12Lose.sp (x := wrote x n b) (by omega) (by unfold wrote; simp; omega) (wrote_in hw hn hb) (hf _ (faultM_mem c3))) (tl rfl)
  · rw [if_neg (by rw [c3]; simp)]
    exact tl rfl
theorem spec_WriteSec.sp {d : Nat} (hd : 4 ≤ d) {x : Dk} (sm : dkSm x) (n : Int) {b : List Int} (hb : b.length ≤ 1048576) : spec_WriteSec.f d (x.1, x.2.1, x.2.2.1, x.2.2.2.1, x.2.2.2.2, n, b) = some (writeAll x n b) := by
  obtain ⟨d, rfl, _⟩ := dep hd
  rw [spec_WriteSec.t_eq]
  dsimp only [spec_WriteSec.m]
  have hl := sm.1.1
  rw [wrap_id (by omega) (by omega)]
  unfold writeAll
  refine Tells.eq (tc (spec_l12Copy.sp (by omega) sm) (tc (spec_DiskOk.sp (by omega) sm.1.1 sm.2.1.1 sm.2.2.1) (tbif (fun c => tl ?_) fun c => ?_)))
  · simp only [Bool.not_eq_true'] at c; rw [if_neg (by rw [c]; simp)]; rfl
  simp only [Bool.not_eq_false'] at c
  refine tc (spec_l1In.sp (by omega) _ _ _) (tbif (fun c2 => tl ?_) fun c2 => ?_)
  · simp only [Bool.not_eq_true'] at c2; rw [if_neg (by rw [c2]; simp)]; rfl
  simp only [Bool.not_eq_false'] at c2
  refine tif (fun c3 => tl ?_) fun c3 => tif (fun c4 => tl ?_) fun c4 => ?_
  · rw [if_neg fun h => h.2.2.1 c3]; rfl
  · rw [if_neg fun h => h.2.2.2 c4]; rfl
  · rw [if_pos ⟨c, c2, c3, c4⟩]
    exact tc (spec_l12Write.sp (by omega) (diskOk_good sm c) c2 hb) (tl rfl)
theorem impl_WriteSec.sp {d : Nat} (hd : 4 ≤ d) {x : Dk} (sm : dkSm x) (n : Int) {b : List Int} (hb : b.length ≤ 1048576) : impl_WriteSec.f d (x.1, x.2.1, x.2.2.1, x.2.2.2.1, x.2.2.2.2, n, b) = some (writeAll x n b) := by
  obtain ⟨d, rfl, _⟩ := dep hd
  rw [impl_WriteSec.t_eq]
  dsimp only [impl_WriteSec.m]
  have hl := sm.1.1
  rw [wrap_id (x := (x.1.length : Int) - 1) (by omega) (by omega)]
  unfold writeAll
  refine Tells.eq (tc (impl_copyDisk.sp (by omega) sm) (tc (impl_DiskOk.sp (by omega) sm.1.1 sm.2.1.1 sm.2.2.1) (tbif (fun c => tl ?_) fun c => ?_)))
  · simp only [Bool.not_eq_true'] at c; rw [if_neg (by rw [c]; simp)]; rfl
  simp only [Bool.not_eq_false'] at c
  refine tc (impl_in.sp (by omega) _ _ _) (tbif (fun c2 => tl ?_) fun c2 => ?_)
  · simp only [Bool.not_eq_true'] at c2; rw [if_neg (by rw [c2]; simp)]; rfl
  simp only [Bool.not_eq_false'] at c2
  refine tif (fun c3 => tl ?_) fun c3 => tif (fun c4 => tl ?_) fun c4 => ?_
  · rw [if_neg fun h => h.2.2.1 c3]; rfl
  · rw [if_neg fun h => h.2.2.2 c4]; rfl
  rw [if_pos ⟨c, c2, c3, c4⟩]
  obtain ⟨_, hw, hf, hp1, hp2⟩ := diskOk_good sm c
  unfold writeM
  refine tbif (fun c1 => tl (by rw [if_pos c1]; rfl)) fun c1 => ?_
  rw [if_neg (by rw [c1]; simp)]
  refine tif (fun c5 => tl (by rw [if_pos c5]; rfl)) fun c5 => ?_
  rw [if_neg c5, if_neg c4]
  refine tc (impl_Disk_fault.sp (by omega) sm.fit) (tc (impl_copyBytes.sp (by omega) (by omega)) ?_)
  dsimp only
  rw [wrap_id (by omega) (by omega)]
  refine tp (by simp; omega) (tbif (fun c3 => ?_) fun c3 => ?_)
  · rw [if_pos c3]
    exact tc (impl_Disk_lose.sp (x := wrote x n b) (by omega) (by unfold wrote; simp; omega) (wrote_in hw c2 hb) (hf _ (faultM_mem c3))) (tl rfl)
  · rw [if_neg (by rw [c3]; simp)]
    exact tl rfl
theorem wrote_b {x : Dk} (h : dkSm x) {n : Int} {b : List Int} (hb : b.length ≤ 1048577) : dkB (wrote x n b) :=
  ⟨h.b.1, ⟨by have := h.2.1.1; unfold wrote; simp only [List.length_append, List.length_singleton]; omega, fun y hy => by
    rcases List.mem_append.1 hy with h1 | h1
    · exact h.b.2.1.2 y h1
    · obtain rfl := List.mem_singleton.1 h1; exact hb⟩, h.b.2.2⟩
theorem writeAll_b {x : Dk} (h : dkSm x) {n : Int} {b : List Int} (hb : b.length ≤ 1048576) : dkB (dkOf (writeAll x n b)) := by
  have hw : dkB (wrote x n b) := wrote_b h (by omega)
  unfold writeAll
  split
  · unfold writeM
    split
    · exact h.b
    · split
      · exact h.b
      · split
        · exact h.b
        · split
          · exact loseM_b hw
          · exact hw
  · exact h.b
theorem laws_FnExactWriteSec.pure {d : Nat} (hd : 5 ≤ d) {ss : List (List Int)} {ws : List (Int × List Int)} {p : Int} {fs : List (Int × Int × Int)} {on : Bool} {n : Int} {b : List Int} (h1 : okV (.row (.one (.row (.one (.int .u8))))) ss) (h2 : okV (.row (.cons (.int .i64) (.one (.row (.one (.int .u8)))))) ws) (_ : okV (.int .i64) p)
    (h3 : okV (.row (.cons (.int .i64) (.cons (.int .i64) (.one (.int .i64))))) fs) (_ : okV .bool on) (_ : okV (.int .i64) n) (_ : okV (.row (.one (.int .u8))) b) : laws_FnExactWriteSec.f d (ss, ws, p, fs, on, n, b) = some true := by
  obtain ⟨d, rfl, _⟩ := dep hd
  rw [laws_FnExactWriteSec.t_eq]
  dsimp only [laws_FnExactWriteSec.m]
  have ok : dkOk (ss, ws, p, fs, on) := ⟨h1, h2, h3⟩
  refine Tells.eq (tif (fun _ => tl rfl) fun hb0 => tb (laws_szDisk.sp (by omega) ok.fit) fun r hr => tif (fun _ => tl rfl) fun h => ?_)
  have hb : b.length ≤ 1048576 := by omega
  have sm := hr (by omega)
  have to := laws_toDisk.sp (d := d) (by omega) sm
  have tb' := laws_toByteS.sp (d := d) (by omega) hb
  have fb := writeAll_b (n := n) sm hb
  have eq := laws_eqDisk.selfc (d := d) (by omega) fb.fit
  have fi := impl_WriteSec.sp (d := d) (by omega) sm n hb
  refine tc to (tc tb' (tc (spec_WriteSec.sp (by omega) sm n hb) (tc to (tc tb' (tc fi (tc eq (tf rfl (tf (by simp) ?_))))))))
  refine tc to (tc (laws_eqDisk.self (by omega) ok.fit) (tf rfl ?_))
  refine tc tb' (tc (laws_eqByteS.self (by omega) (by omega)) (tf rfl ?_))
  refine tb (laws_markDisk.sum (d := d) (by omega) (by omega) ok.fit (by have := sm.2.2.2; omega)) fun r13 h13 => ?_
  refine tb (laws_markByteS.sp (by omega) (by omega) (by omega) (by have := sm.2.2.2; omega)) fun r14 h14 => tn (by omega) ?_
  refine tc eq (tf rfl (tf (by simp) ?_))
  refine tb (laws_markDisk.held (d := d) (d2 := d) (x := dkOf (writeAll (ss, ws, p, fs, on) n b)) (by omega) (by omega) (by omega) fb.fit (by have := fb.wide; omega)) fun r11 h11 => ?_
  refine tc (h11.2 _ _) (tn (by omega) (tf (by simp) ?_))
  refine tc to (tc tb' (tc fi (tc eq (tf rfl (tf (by simp) ?_)))))
  exact tc (h11.2 _ _) (tn (by omega) (tf (by simp) (tl rfl)))
end Go.PV.T
