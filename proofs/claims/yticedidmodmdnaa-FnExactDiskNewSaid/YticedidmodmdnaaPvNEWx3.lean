/- Functions of the program by their own lists and numbers. No condition beyond those in each statement. -/
import Derived.Test.YticedidmodmdnaaPvNEWx2
set_option linter.unusedVariables false
namespace Go.PV.T
open Go.Proofs
theorem laws_szFaultS.sp {d : Nat} (hd : 1 ≤ d) {l : List (Int × Int × Int)} {left : Int} (h0 : 0 ≤ left) (h1 : left ≤ 1048576) (hl : l.length ≤ 140737488351232) :
    Tells (laws_szFaultS.f d (l, left)) fun r => r ≤ left ∧ (0 ≤ r → (l.length : Int) ≤ left - r) := by
  obtain ⟨d, rfl, hd⟩ := dep hd
  rw [laws_szFaultS.t_eq]
  dsimp only [laws_szFaultS.m]
  rw [wrap_id (by omega) (by omega)]
  exact tif (fun h => tl ⟨by omega, by omega⟩) fun h => tl ⟨by omega, by omega⟩
theorem laws_toFault.sp {d : Nat} (hd : 1 ≤ d) (a : Int × Int × Int) : laws_toFault.f d (a.1, a.2.1, a.2.2) = some a := by
  obtain ⟨d, rfl, hd⟩ := dep hd
  rw [laws_toFault.t_eq]
  rfl
/-- a row of the same length that is filled element by element -/
theorem fill_step {α : Type} {l s : List α} {i : Nat} (hl : s.length = l.length) (ht : s.take i = l.take i) (hi : i < l.length) : (s.set i l[i]).take (i + 1) = l.take (i + 1) := by
  rw [List.take_add_one, List.take_add_one, List.take_set_of_le (Nat.le_refl i), ht, List.getElem?_set_self (by omega)]
  simp [hi]
theorem laws_toFaultS.sp {d : Nat} (hd : 2 ≤ d) {l : List (Int × Int × Int)} (hl : l.length ≤ 1048576) : laws_toFaultS.f d l = some l := by
  obtain ⟨d, rfl, hd⟩ := dep hd
  rw [laws_toFaultS.t_eq]
  dsimp only [laws_toFaultS.m]
  refine Tells.eq (tt (by simp; omega) ?_)
  refine loop0 (laws_toFaultS.S0 d) l.length (fun st i => (l, i, st)) (fun st i => st.length = l.length ∧ st.take i = l.take i) (fun _ _ r => r = l) _ (by omega) (by simp) ?_ ?_
  · rintro L st ⟨h1, h2⟩
    dsimp only [laws_toFaultS.S0, laws_toFaultS.s0]
    refine tn (by omega) (tl ?_)
    rwa [← h1, List.take_length, h1, List.take_length] at h2
  · rintro L st i ⟨h1, h2⟩ hi ih
    dsimp only [laws_toFaultS.S0, laws_toFaultS.s0]
    refine tp (by omega) (ti hi ?_)
    rw [getD_in hi]
    refine tc (laws_toFault.sp (by omega) _) (ti (by omega) ?_)
    rw [wrap_succ (by omega)]
    have hi' : i < st.length := by omega
    have := ih (st.set i l[i]) ⟨by simp [h1], fill_step h1 h2 hi⟩
    simpa [hi'] using this
def inB (a lo hi : Int) : Bool := decide (lo ≤ a) && decide (a ≤ hi)
theorem inB_iff {a lo hi : Int} : inB a lo hi = true ↔ lo ≤ a ∧ a ≤ hi := by simp [inB]
theorem in_def (a lo hi : Int) : (bif decide (a ≥ lo) then some (decide (a ≤ hi)) else some false) = some (inB a lo hi) := by
  by_cases h : lo ≤ a <;> simp [inB, h]
theorem impl_in.sp {d : Nat} (hd : 1 ≤ d) (a lo hi : Int) : impl_in.f d (a, lo, hi) = some (inB a lo hi) := by
  obtain ⟨d, rfl, hd⟩ := dep hd
  rw [impl_in.t_eq]
  exact in_def a lo hi
theorem spec_l1In.sp {d : Nat} (hd : 1 ≤ d) (a lo hi : Int) : spec_l1In.f d (a, lo, hi) = some (inB a lo hi) := by
  obtain ⟨d, rfl, hd⟩ := dep hd
  rw [spec_l1In.t_eq]
  exact in_def a lo hi
/-! ### a disk's form -/
def fOk (x : Int × Int × Int) : Bool := inB x.1 0 100000 && (inB x.2.1 0 1048575 && inB x.2.2 0 256)
def faultsM : Option (Int × Int × Int) → List (Int × Int × Int) → Bool
  | _, [] => true
  | p, x :: r => fOk x && (match p with
    | none => faultsM (some x) r
    | some y => !decide (y.1 ≥ x.1) && faultsM (some x) r)
def before (fs : List (Int × Int × Int)) (i : Nat) : Option (Int × Int × Int) := if i = 0 then none else fs[i - 1]?
theorem before_succ {fs : List (Int × Int × Int)} {i : Nat} (h : i < fs.length) : before fs (i + 1) = some fs[i] := by
  unfold before
  rw [if_neg (by omega), show i + 1 - 1 = i by omega]
  simp [h]
/-- what both rounds over the faults tell -/
theorem faults_round {fs : List (Int × Int × Int)} {i : Nat} {k : Bool} {x : Option Bool} (hi : i < fs.length) (hl : fs.length ≤ 1048576) {c : Int × Int × Int → Option Bool} (hc : ∀ a lo hi, c (a, lo, hi) = some (inB a lo hi))
    (ih : Tells x (· = (faultsM (before fs (i + 1)) (fs.drop (i + 1)) && k))) (b1 b2 b3 : Bool) (h1 : b1 = true) (h2 : b2 = true) (h3 : b3 = true) :
    Tells (Option.bind (c (fs[i].1, 0, 100000)) fun r1 => bif !r1 then some false else bif b1 then
      Option.bind (c (fs[i].2.1, 0, 1048575)) fun r2 => bif !r2 then some false else bif b2 then
        Option.bind (c (fs[i].2.2, 0, 256)) fun r3 => bif !r3 then some false else
          bif decide ((i : Int) > 0) then
            bif decide (0 ≤ IntKind.wrap IntKind.i64 ((i : Int) - 1)) && decide (IntKind.wrap IntKind.i64 ((i : Int) - 1) < (fs.length : Int)) then
              bif b3 then
                bif decide ((List.getD fs (Int.toNat (IntKind.wrap IntKind.i64 ((i : Int) - 1))) ((0 : Int), (0 : Int), (0 : Int))).1 ≥ fs[i].1) then some false else x
              else none
            else none
          else x
        else none
      else none) (· = (faultsM (before fs i) (fs.drop i) && k)) := by
  subst h1 h2 h3
  rw [drop_at hi, before_succ hi] at *
  simp only [faultsM, fOk]
  refine tc (hc _ _ _) (tbif (fun h => tl (by simp at h; simp [h])) fun h => ?_)
  refine tc (hc _ _ _) (tbif (fun h' => tl (by simp at h'; simp [h'])) fun h' => ?_)
  refine tc (hc _ _ _) (tbif (fun h'' => tl (by simp at h''; simp [h''])) fun h'' => ?_)
  simp only [Bool.not_eq_false'] at h h' h''
  rw [h, h', h'']
  by_cases h0 : i = 0
  · subst h0
    refine tn (by omega) ?_
    simpa [before] using ih
  · have hb : before fs i = some fs[i - 1] := by unfold before; rw [if_neg h0]; simp
    have e : IntKind.wrap IntKind.i64 ((i : Int) - 1) = ((i - 1 : Nat) : Int) := by rw [wrap_id (by omega) (by omega)]; omega
    rw [hb, e]
    refine tp (by omega) (ti (by omega) (tt rfl ?_))
    rw [getD_in (by omega)]
    refine tif (fun c => tl ?_) fun c => ?_
    · simp only [decide_eq_true c]; simp
    · simp only [decide_eq_false c]; simpa using ih
def faultsOkM (fs : List (Int × Int × Int)) : Bool := faultsM none fs && decide ((fs.length : Int) ≤ 20)
theorem spec_l12Faults.sp {d : Nat} (hd : 2 ≤ d) {fs : List (Int × Int × Int)} (hl : fs.length ≤ 1048576) : spec_l12Faults.f d fs = some (faultsOkM fs) := by
  obtain ⟨d, rfl, _⟩ := dep hd
  rw [spec_l12Faults.t_eq]
  refine Tells.eq ?_
  refine loopE (spec_l12Faults.S0 d) fs.length (fun i => (fs, i)) (fun i r => r = (faultsM (before fs i) (fs.drop i) && decide ((fs.length : Int) ≤ 20))) (by omega) (fun L => ?_) fun L i hi ih => ?_
  · dsimp only [spec_l12Faults.S0, spec_l12Faults.s0]
    exact tn (by omega) (tl (by simp [faultsM]))
  · dsimp only [spec_l12Faults.S0, spec_l12Faults.s0]
    refine tp (by omega) (ti hi ?_)
    rw [getD_in hi, wrap_succ (by omega)]
    exact faults_round hi hl (spec_l1In.sp (by omega)) ih _ _ _ (inr hi) (inr hi) (inr hi)
def secOk (x : List Int) : Bool := decide ((x.length : Int) ≤ 256)
def wrOk (n : Int) (w : Int × List Int) : Bool := inB w.1 0 (n - 1) && decide ((w.2.length : Int) ≤ 256)
abbrev Dk := (List (List Int)) × (List (Int × (List Int))) × Int × (List (Int × Int × Int)) × Bool
def diskOkM (ss : List (List Int)) (ws : List (Int × List Int)) (p : Int) (fs : List (Int × Int × Int)) (on : Bool) : Bool :=
  ss.all secOk && ws.all (wrOk ss.length) && inB ss.length 4 48 && decide ((ws.length : Int) ≤ 60) && inB p 0 100000 && faultsOkM fs && (!on || decide (ws.length = 0))
/-- a test of each element -/
theorem loopAll {A β : Type} (s : (A → Option Bool) → A → Option Bool) (l : List β) (mk : Int → A) (p : β → Bool) (e : Bool) (hn : l.length ≤ 4611686018427387904)
    (base : ∀ L, Tells (s L (mk (l.length : Int))) (· = e))
    (step : ∀ L i (hi : i < l.length), (∀ e', Tells (L (mk ((i + 1 : Nat) : Int))) (· = e') → Tells (s L (mk (i : Int))) (· = (p l[i] && e')))) :
    Tells (iter s rnds (mk (0 : Int))) (· = (l.all p && e)) := by
  have := loopE s l.length mk (fun i r => r = ((l.drop i).all p && e)) hn (fun L => (base L).mono fun r h => by simp [h]) fun L i hi ih => by
    rw [drop_at hi, List.all_cons, Bool.and_assoc]
    exact step L i hi _ ih
  simpa using this
theorem impl_DiskOk.sp {d : Nat} (hd : 2 ≤ d) {ss : List (List Int)} {ws : List (Int × List Int)} {p : Int} {fs : List (Int × Int × Int)} {on : Bool} (h1 : ss.length ≤ 1048576) (h2 : ws.length ≤ 1048576) (h3 : fs.length ≤ 1048576) :
    impl_DiskOk.f d (ss, ws, p, fs, on) = some (diskOkM ss ws p fs on) := by
  obtain ⟨d, rfl, _⟩ := dep hd
  rw [impl_DiskOk.t_eq]
  refine Tells.eq ?_
  have e4 : Tells (iter (impl_DiskOk.S4 d) rnds (fs, (fs.length : Int), (0 : Int), ss, ws, p, fs, on)) (· = faultsM none fs) := by
    have := loopE (impl_DiskOk.S4 d) fs.length (fun i => (fs, (fs.length : Int), i, ss, ws, p, fs, on)) (fun i r => r = (faultsM (before fs i) (fs.drop i) && true)) (by omega) (fun L => ?_) fun L i hi ih => ?_
    · simpa [before] using this
    · dsimp only [impl_DiskOk.S4, impl_DiskOk.s4]
      exact tn (by omega) (tl (by simp [faultsM]))
    · dsimp only [impl_DiskOk.S4, impl_DiskOk.s4]
      refine tp (by omega) (ti hi ?_)
      rw [getD_in hi, wrap_succ (by omega)]
      exact faults_round hi h3 (impl_in.sp (by omega)) ih true true true rfl rfl rfl
  have e2 : Tells (iter (impl_DiskOk.S2 d) rnds (ws, (ws.length : Int), (0 : Int), ss, ws, p, fs, on)) (· = (ws.all (wrOk ss.length) && faultsM none fs)) := by
    refine loopAll (impl_DiskOk.S2 d) ws (fun i => (ws, (ws.length : Int), i, ss, ws, p, fs, on)) _ _ (by omega) (fun L => ?_) fun L i hi e ih => ?_
    · dsimp only [impl_DiskOk.S2, impl_DiskOk.s2]
      exact tn (by omega) e4
    · dsimp only [impl_DiskOk.S2, impl_DiskOk.s2]
      refine tp (by omega) (ti hi ?_)
      rw [getD_in hi, wrap_succ (by omega), wrap_id (by omega) (by omega)]
      refine tc (impl_in.sp (by omega) _ _ _) (tbif (fun c => tl (by simp at c; simp [wrOk, c])) fun c => ?_)
      simp only [Bool.not_eq_false'] at c
      refine tif (fun c2 => tl (by simp [wrOk]; omega)) fun c2 => ih.mono fun r hr => ?_
      rw [hr, wrOk, c, decide_eq_true (by omega)]; rfl
  have e0 : Tells (iter (impl_DiskOk.S0 d) rnds (ss, (ss.length : Int), (0 : Int), ss, ws, p, fs, on)) (· = (ss.all secOk && (ws.all (wrOk ss.length) && faultsM none fs))) := by
    refine loopAll (impl_DiskOk.S0 d) ss (fun i => (ss, (ss.length : Int), i, ss, ws, p, fs, on)) _ _ (by omega) (fun L => ?_) fun L i hi e ih => ?_
    · dsimp only [impl_DiskOk.S0, impl_DiskOk.s0]
      exact tn (by omega) e2
    · dsimp only [impl_DiskOk.S0, impl_DiskOk.s0]
      refine tp (by omega) (ti hi ?_)
      rw [getD_in hi, wrap_succ (by omega)]
      refine tif (fun c2 => tl (by simp [secOk]; omega)) fun c2 => ih.mono fun r hr => ?_
      rw [hr, secOk, decide_eq_true (by omega)]; rfl
  dsimp only [impl_DiskOk.m]
  refine tc (impl_in.sp (by omega) _ _ _) (tbif (fun c => tl (by simp at c; simp [diskOkM, c])) fun c => ?_)
  refine tif (fun c2 => tl (by simp [diskOkM]; omega)) fun c2 => ?_
  refine tc (impl_in.sp (by omega) _ _ _) (tbif (fun c3 => tl (by simp at c3; simp [diskOkM, c3])) fun c3 => ?_)
  refine tif (fun c4 => tl (by simp [diskOkM, faultsOkM]; omega)) fun c4 => ?_
  simp only [Bool.not_eq_false'] at c c3
  have e : diskOkM ss ws p fs on = (ss.all secOk && (ws.all (wrOk ss.length) && faultsM none fs) && (!on || decide (ws.length = 0))) := by
    unfold diskOkM faultsOkM
    rw [c, c3, decide_eq_true (show (ws.length : Int) ≤ 60 by omega), decide_eq_true (show (fs.length : Int) ≤ 20 by omega)]
    simp [Bool.and_assoc]
  rw [e]
  refine tbif (fun c5 => tif (fun c6 => tl ?_) fun c6 => e0.mono fun r hr => ?_) fun c5 => e0.mono fun r hr => ?_
  · rw [c5, decide_eq_false (show ¬ ws.length = 0 by omega)]; simp
  · rw [hr, c5, decide_eq_true (show ws.length = 0 by omega)]; simp
  · rw [hr, c5]; simp
/-! ### the same, twice -/
theorem laws_eqByteS.self {d : Nat} (hd : 1 ≤ d) {l : List Int} (hl : l.length ≤ 140737488351232) : laws_eqByteS.f d (l, l) = some true := by
  obtain ⟨d, rfl, _⟩ := dep hd
  rw [laws_eqByteS.t_eq]
  refine Tells.eq ?_
  dsimp only [laws_eqByteS.m]
  refine tf (by simp) ?_
  refine loopE (laws_eqByteS.S0 d) l.length (fun i => (l, l, i)) (fun _ r => r = true) (by omega) (fun L => ?_) fun L i hi ih => ?_
  · dsimp only [laws_eqByteS.S0, laws_eqByteS.s0]
    exact tn (by omega) (tl rfl)
  · dsimp only [laws_eqByteS.S0, laws_eqByteS.s0]
    refine tp (by omega) (ti hi (ti hi (tf (by simp) ?_)))
    rwa [wrap_succ (by omega)]
theorem laws_eqByteSS.self {d : Nat} (hd : 2 ≤ d) {l : List (List Int)} (hl : l.length ≤ 140737488351232) (hx : ∀ x ∈ l, x.length ≤ 140737488351232) : laws_eqByteSS.f d (l, l) = some true := by
  obtain ⟨d, rfl, _⟩ := dep hd
  rw [laws_eqByteSS.t_eq]
  refine Tells.eq ?_
  dsimp only [laws_eqByteSS.m]
  refine tf (by simp) ?_
  refine loopE (laws_eqByteSS.S0 d) l.length (fun i => (l, l, i)) (fun _ r => r = true) (by omega) (fun L => ?_) fun L i hi ih => ?_
  · dsimp only [laws_eqByteSS.S0, laws_eqByteSS.s0]
    exact tn (by omega) (tl rfl)
  · dsimp only [laws_eqByteSS.S0, laws_eqByteSS.s0]
    refine tp (by omega) (ti hi (ti hi ?_))
    rw [getD_in hi, wrap_succ (by omega)]
    exact tc (laws_eqByteS.self (by omega) (hx _ (List.getElem_mem hi))) (tf rfl ih)
theorem laws_eqFault.self {d : Nat} (hd : 1 ≤ d) (a : Int × Int × Int) : laws_eqFault.f d (a.1, a.2.1, a.2.2, a.1, a.2.1, a.2.2) = some true := by
  obtain ⟨d, rfl, _⟩ := dep hd
  rw [laws_eqFault.t_eq]
  simp [laws_eqFault.m]
theorem laws_eqFaultS.self {d : Nat} (hd : 2 ≤ d) {l : List (Int × Int × Int)} (hl : l.length ≤ 140737488351232) : laws_eqFaultS.f d (l, l) = some true := by
  obtain ⟨d, rfl, _⟩ := dep hd
  rw [laws_eqFaultS.t_eq]
  refine Tells.eq ?_
  dsimp only [laws_eqFaultS.m]
  refine tf (by simp) ?_
  refine loopE (laws_eqFaultS.S0 d) l.length (fun i => (l, l, i)) (fun _ r => r = true) (by omega) (fun L => ?_) fun L i hi ih => ?_
  · dsimp only [laws_eqFaultS.S0, laws_eqFaultS.s0]
    exact tn (by omega) (tl rfl)
  · dsimp only [laws_eqFaultS.S0, laws_eqFaultS.s0]
    refine tp (by omega) (ti hi (ti hi ?_))
    rw [wrap_succ (by omega)]
    exact tc (laws_eqFault.self (by omega) _) (tf rfl ih)
theorem laws_eqWrite.self {d : Nat} (hd : 2 ≤ d) {a : Int × List Int} (hl : a.2.length ≤ 140737488351232) : laws_eqWrite.f d (a.1, a.2, a.1, a.2) = some true := by
  obtain ⟨d, rfl, _⟩ := dep hd
  rw [laws_eqWrite.t_eq]
  refine Tells.eq ?_
  dsimp only [laws_eqWrite.m]
  exact tf (by simp) (tc (laws_eqByteS.self (by omega) hl) (tf rfl (tl rfl)))
theorem laws_eqWriteS.self {d : Nat} (hd : 3 ≤ d) {l : List (Int × List Int)} (hl : l.length ≤ 140737488351232) (hx : ∀ x ∈ l, x.2.length ≤ 140737488351232) : laws_eqWriteS.f d (l, l) = some true := by
  obtain ⟨d, rfl, _⟩ := dep hd
  rw [laws_eqWriteS.t_eq]
  refine Tells.eq ?_
  dsimp only [laws_eqWriteS.m]
  refine tf (by simp) ?_
  refine loopE (laws_eqWriteS.S0 d) l.length (fun i => (l, l, i)) (fun _ r => r = true) (by omega) (fun L => ?_) fun L i hi ih => ?_
  · dsimp only [laws_eqWriteS.S0, laws_eqWriteS.s0]
    exact tn (by omega) (tl rfl)
  · dsimp only [laws_eqWriteS.S0, laws_eqWriteS.s0]
    refine tp (by omega) (ti hi (ti hi ?_))
    rw [getD_in hi, wrap_succ (by omega)]
    exact tc (laws_eqWrite.self (by omega) (hx _ (List.getElem_mem hi))) (tf rfl ih)
/-- a disk's rows are no longer than memory holds -/
def dkFit (x : Dk) : Prop := (x.1.length ≤ 140737488351232 ∧ ∀ y ∈ x.1, y.length ≤ 140737488351232) ∧ (x.2.1.length ≤ 140737488351232 ∧ ∀ y ∈ x.2.1, y.2.length ≤ 140737488351232) ∧ x.2.2.2.1.length ≤ 140737488351232
theorem laws_eqDisk.self {d : Nat} (hd : 4 ≤ d) {x : Dk} (h : dkFit x) : laws_eqDisk.f d (x.1, x.2.1, x.2.2.1, x.2.2.2.1, x.2.2.2.2, x.1, x.2.1, x.2.2.1, x.2.2.2.1, x.2.2.2.2) = some true := by
  obtain ⟨d, rfl, _⟩ := dep hd
  rw [laws_eqDisk.t_eq]
  refine Tells.eq ?_
  dsimp only [laws_eqDisk.m]
  refine tc (laws_eqByteSS.self (by omega) h.1.1 h.1.2) (tf rfl ?_)
  refine tc (laws_eqWriteS.self (by omega) h.2.1.1 h.2.1.2) (tf rfl (tf (by simp) ?_))
  exact tc (laws_eqFaultS.self (by omega) h.2.2) (tf rfl (tf (by simp) (tl rfl)))
/-! ### marks -/
def Mb (n : Int) (x : Int) : Prop := x = IntKind.wrap IntKind.u8 n
abbrev MkB := MkL (fun _ : Int => 1) Mb
theorem sum_one {α : Type} (l : List α) : wSum (fun _ => 1) l = l.length := by induction l with
  | nil => rfl
  | cons a l ih => rw [wSum_cons, ih, List.length_cons]; omega
def Mf (n : Int) (x : Int × Int × Int) : Prop := x = (n, n + 1, n + 2)
abbrev MkF := MkL (fun _ : Int × Int × Int => 3) Mf
abbrev MkBB := MkL (fun x : List Int => x.length) MkB
def Mw (n : Int) (x : Int × List Int) : Prop := x.1 = n ∧ MkB (n + 1) x.2
def ww (x : Int × List Int) : Nat := x.2.length + 1
abbrev MkW := MkL ww Mw
theorem laws_markByteS.sp {d : Nat} (hd : 1 ≤ d) {l : List Int} {n : Int} (h0 : 0 ≤ n) (hl : l.length ≤ 140737488351232) (hn : n + l.length ≤ 4611686018427387904) :
    Tells (laws_markByteS.f d (l, n)) (fun r => r.1 = n + l.length ∧ MkB n r.2 ∧ r.2.length = l.length) := by
  obtain ⟨d, rfl, _⟩ := dep hd
  rw [laws_markByteS.t_eq]
  dsimp only [laws_markByteS.m]
  refine (loopMark (w := fun _ => 1) (M := Mb) (laws_markByteS.S0 d) h0 (by rw [sum_one]; exact hn) hl (fun L n st h => ?_) fun L n st i Q hi h hwx h0 hn ih => ?_).mono fun r hr => ?_
  · dsimp only [laws_markByteS.S0, laws_markByteS.s0]
    exact tn (by omega) (tl rfl)
  · dsimp only [laws_markByteS.S0, laws_markByteS.s0]
    refine tp (by omega) (ti hi ?_)
    rw [wrap_succ (by omega), wrapn (by omega) (by omega)]
    exact ih _ rfl rfl
  · rw [sum_one] at hr
    exact ⟨hr.1, hr.2.1, by simpa using congrArg List.length hr.2.2⟩
theorem laws_heldByteS.sp {d : Nat} (hd : 1 ≤ d) {l : List Int} {n : Int} (h0 : 0 ≤ n) (hl : l.length ≤ 140737488351232) (hn : n + l.length ≤ 4611686018427387904) (hm : MkB n l) : laws_heldByteS.f d (l, n) = some (n + l.length) := by
  obtain ⟨d, rfl, _⟩ := dep hd
  rw [laws_heldByteS.t_eq]
  dsimp only [laws_heldByteS.m]
  refine Tells.eq ?_
  have := loopHeld (w := fun _ => 1) (M := Mb) (laws_heldByteS.S0 d) h0 (by rw [sum_one]; exact hn) hl hm (fun L n => ?_) fun L n i Q hi h0 hn hM ih => ?_
  · rw [sum_one] at this; exact this
  · dsimp only [laws_heldByteS.S0, laws_heldByteS.s0]
    exact tn (by omega) (tl rfl)
  · dsimp only [laws_heldByteS.S0, laws_heldByteS.s0]
    refine tp (by omega) (ti hi ?_)
    rw [getD_in hi, wrap_succ (by omega), wrapn (by omega) (by omega), hM]
    exact tf (by simp) ih
theorem laws_markFaultS.sp {d : Nat} (hd : 1 ≤ d) {l : List (Int × Int × Int)} {n : Int} (h0 : 0 ≤ n) (hl : l.length ≤ 140737488351232) (hn : n + wSum (fun _ : Int × Int × Int => 3) l ≤ 4611686018427387904) :
    Tells (laws_markFaultS.f d (l, n)) (fun r => r.1 = n + wSum (fun _ : Int × Int × Int => 3) l ∧ MkF n r.2 ∧ r.2.length = l.length) := by
  obtain ⟨d, rfl, _⟩ := dep hd
  rw [laws_markFaultS.t_eq]
  dsimp only [laws_markFaultS.m]
  refine (loopMark (w := fun _ => 3) (M := Mf) (laws_markFaultS.S0 d) h0 hn hl (fun L n st h => ?_) fun L n st i Q hi h hwx h0 hn ih => ?_).mono fun r hr => ⟨hr.1, hr.2.1, by simpa using congrArg List.length hr.2.2⟩
  · dsimp only [laws_markFaultS.S0, laws_markFaultS.s0]
    exact tn (by omega) (tl rfl)
  · dsimp only [laws_markFaultS.S0, laws_markFaultS.s0]
    refine tp (by omega) (ti hi (tt ?_ (tt ?_ ?_)))
    · simp [hi]
    · simp [hi]
    · have := ih (n, n + 1, n + 2) rfl rfl
      rw [wrap_succ (by omega), wrapn (x := n + 1) (by omega) (by omega), show n + 1 + 1 = n + 2 by omega, wrapn (x := n + 2) (by omega) (by omega), show n + 2 + 1 = n + ((3 : Nat) : Int) by omega, wrapn (x := n + ((3 : Nat) : Int)) (by omega) (by omega)]
      simpa [hi] using this
theorem laws_heldFaultS.sp {d : Nat} (hd : 1 ≤ d) {l : List (Int × Int × Int)} {n : Int} (h0 : 0 ≤ n) (hl : l.length ≤ 140737488351232) (hn : n + wSum (fun _ : Int × Int × Int => 3) l ≤ 4611686018427387904) (hm : MkF n l) : laws_heldFaultS.f d (l, n) = some (n + wSum (fun _ : Int × Int × Int => 3) l) := by
  obtain ⟨d, rfl, _⟩ := dep hd
  rw [laws_heldFaultS.t_eq]
  dsimp only [laws_heldFaultS.m]
  refine Tells.eq ?_
  refine loopHeld (w := fun _ => 3) (M := Mf) (laws_heldFaultS.S0 d) h0 hn hl hm (fun L n => ?_) fun L n i Q hi h0 hn hM ih => ?_
  · dsimp only [laws_heldFaultS.S0, laws_heldFaultS.s0]
    exact tn (by omega) (tl rfl)
  · dsimp only [laws_heldFaultS.S0, laws_heldFaultS.s0]
    refine tp (by omega) (ti hi ?_)
    rw [getD_in hi, wrap_succ (by omega), wrapn (x := n + 1) (by omega) (by omega), show n + 1 + 1 = n + 2 by omega, wrapn (x := n + 2) (by omega) (by omega), show n + 2 + 1 = n + ((3 : Nat) : Int) by omega, wrapn (x := n + ((3 : Nat) : Int)) (by omega) (by omega), hM]
    exact tf (by simp) (ti hi (tf (by simp) (ti hi (tf (by simp) ih))))
theorem laws_markByteSS.sp {d : Nat} (hd : 2 ≤ d) {l : List (List Int)} {n : Int} (h0 : 0 ≤ n) (hl : l.length ≤ 140737488351232) (hx : ∀ x ∈ l, x.length ≤ 140737488351232) (hn : n + wSum List.length l ≤ 4611686018427387904) :
    Tells (laws_markByteSS.f d (l, n)) (fun r => r.1 = n + wSum List.length l ∧ MkBB n r.2 ∧ r.2.map List.length = l.map List.length) := by
  obtain ⟨d, rfl, _⟩ := dep hd
  rw [laws_markByteSS.t_eq]
  dsimp only [laws_markByteSS.m]
  refine loopMark (w := fun x : List Int => x.length) (M := MkB) (laws_markByteSS.S0 d) h0 hn hl (fun L n st h => ?_) fun L n st i Q hi h hwx h0 hn ih => ?_
  · dsimp only [laws_markByteSS.S0, laws_markByteSS.s0]
    exact tn (by omega) (tl rfl)
  · dsimp only [laws_markByteSS.S0, laws_markByteSS.s0]
    refine tp (by omega) (ti hi ?_)
    rw [getD_in hi, wrap_succ (by omega)]
    obtain ⟨x, hx1, hx2⟩ := hwx
    have := hx x hx1
    refine tb (laws_markByteS.sp (by omega) h0 (by omega) hn) fun a ha => ?_
    rw [ha.1]
    exact ih _ ha.2.2 ha.2.1
theorem laws_heldByteSS.sp {d : Nat} (hd : 2 ≤ d) {l : List (List Int)} {n : Int} (h0 : 0 ≤ n) (hl : l.length ≤ 140737488351232) (hx : ∀ x ∈ l, x.length ≤ 140737488351232) (hn : n + wSum List.length l ≤ 4611686018427387904) (hm : MkBB n l) : laws_heldByteSS.f d (l, n) = some (n + wSum List.length l) := by
  obtain ⟨d, rfl, _⟩ := dep hd
  rw [laws_heldByteSS.t_eq]
  dsimp only [laws_heldByteSS.m]
  refine Tells.eq ?_
  refine loopHeld (w := fun x : List Int => x.length) (M := MkB) (laws_heldByteSS.S0 d) h0 hn hl hm (fun L n => ?_) fun L n i Q hi h0 hn hM ih => ?_
  · dsimp only [laws_heldByteSS.S0, laws_heldByteSS.s0]
    exact tn (by omega) (tl rfl)
  · dsimp only [laws_heldByteSS.S0, laws_heldByteSS.s0]
    refine tp (by omega) (ti hi ?_)
    rw [getD_in hi, wrap_succ (by omega)]
    exact tc (laws_heldByteS.sp (by omega) h0 (hx _ (List.getElem_mem hi)) hn hM) (tn (by omega) ih)
theorem laws_markWriteS.sp {d : Nat} (hd : 2 ≤ d) {l : List (Int × List Int)} {n : Int} (h0 : 0 ≤ n) (hl : l.length ≤ 140737488351232) (hn : n + wSum ww l ≤ 4611686018427387904) (hx : ∀ x ∈ l, x.2.length ≤ 140737488351232) :
    Tells (laws_markWriteS.f d (l, n)) (fun r => r.1 = n + wSum ww l ∧ MkW n r.2 ∧ r.2.map ww = l.map ww) := by
  obtain ⟨d, rfl, _⟩ := dep hd
  rw [laws_markWriteS.t_eq]
  dsimp only [laws_markWriteS.m]
  refine loopMark (w := ww) (M := Mw) (laws_markWriteS.S0 d) h0 hn hl (fun L n st h => ?_) fun L n st i Q hi h hwx h0 hn ih => ?_
  · dsimp only [laws_markWriteS.S0, laws_markWriteS.s0]
    exact tn (by omega) (tl rfl)
  · dsimp only [laws_markWriteS.S0, laws_markWriteS.s0]
    refine tp (by omega) (ti hi (tt (by simp [hi]) ?_))
    have e : ∀ z, List.getD (List.set st (Int.toNat (i : Int)) (n, (List.getD st (Int.toNat (i : Int)) ((0 : Int), ([] : List Int))).2)) (Int.toNat (i : Int)) z = (n, st[i].2) := fun z => by simp [hi]
    simp only [e]
    obtain ⟨x, hx1, hx2⟩ := hwx
    have := hx x hx1
    unfold ww at hn hx2
    rw [wrap_succ (by omega), wrapn (by omega) (by omega)]
    refine tb (laws_markByteS.sp (by omega) (by omega) (by omega) (by omega)) fun a ha => ?_
    have := ih (n, a.2) (by simp [ww, ha.2.2]) ⟨rfl, ha.2.1⟩
    rw [ha.1]
    unfold ww at this
    rw [show n + 1 + (st[i].2.length : Int) = n + ((st[i].2.length + 1 : Nat) : Int) by omega]
    simpa [hi] using this
theorem laws_heldWriteS.sp {d : Nat} (hd : 2 ≤ d) {l : List (Int × List Int)} {n : Int} (h0 : 0 ≤ n) (hl : l.length ≤ 140737488351232) (hx : ∀ x ∈ l, x.2.length ≤ 140737488351232) (hn : n + wSum ww l ≤ 4611686018427387904) (hm : MkW n l) : laws_heldWriteS.f d (l, n) = some (n + wSum ww l) := by
  obtain ⟨d, rfl, _⟩ := dep hd
  rw [laws_heldWriteS.t_eq]
  dsimp only [laws_heldWriteS.m]
  refine Tells.eq ?_
  refine loopHeld (w := ww) (M := Mw) (laws_heldWriteS.S0 d) h0 hn hl hm (fun L n => ?_) fun L n i Q hi h0 hn hM ih => ?_
  · dsimp only [laws_heldWriteS.S0, laws_heldWriteS.s0]
    exact tn (by omega) (tl rfl)
  · dsimp only [laws_heldWriteS.S0, laws_heldWriteS.s0]
    refine tp (by omega) (ti hi ?_)
    unfold ww at hn ih
    rw [getD_in hi, wrap_succ (by omega), wrapn (by omega) (by omega), hM.1]
    refine tf (by simp) (ti hi (tc (laws_heldByteS.sp (by omega) (by omega) (hx _ (List.getElem_mem hi)) (by omega) hM.2) (tn (by omega) ?_)))
    rwa [show n + 1 + (l[i].2.length : Int) = n + ((l[i].2.length + 1 : Nat) : Int) by omega]
def dkW (x : Dk) : Nat := wSum List.length x.1 + wSum ww x.2.1 + wSum (fun _ : Int × Int × Int => 3) x.2.2.2.1
theorem map_len {α β : Type} {f : α → β} {a b : List α} (h : a.map f = b.map f) : a.length = b.length := by simpa using congrArg List.length h
theorem map_all {α β : Type} {f : α → β} {a b : List α} (h : a.map f = b.map f) {P : β → Prop} (hb : ∀ x ∈ b, P (f x)) : ∀ x ∈ a, P (f x) := fun x hx => by
  have := List.mem_map_of_mem (f := f) hx
  rw [h] at this
  obtain ⟨y, hy, e⟩ := List.mem_map.1 this
  rw [← e]; exact hb y hy
/-- what is marked is held -/
theorem laws_markDisk.held {d d2 : Nat} (hd : 3 ≤ d) (hd2 : 3 ≤ d2) {x : Dk} {n : Int} (h0 : 0 ≤ n) (hf : dkFit x) (hn : n + dkW x ≤ 4611686018427387904) :
    Tells (laws_markDisk.f d (x.1, x.2.1, x.2.2.1, x.2.2.2.1, x.2.2.2.2, n)) (fun r => 0 ≤ r.1 ∧ ∀ p on, laws_heldDisk.f d2 (r.2.1, r.2.2.1, p, r.2.2.2, on, n) = some r.1) := by
  obtain ⟨d, rfl, _⟩ := dep hd
  obtain ⟨d2, rfl, _⟩ := dep hd2
  rw [laws_markDisk.t_eq]
  dsimp only [laws_markDisk.m]
  unfold dkW at hn
  refine tb (laws_markByteSS.sp (by omega) h0 hf.1.1 hf.1.2 (by omega)) fun a ha => ?_
  have hb0 : 0 ≤ a.1 := by omega
  refine tb (laws_markWriteS.sp (by omega) hb0 hf.2.1.1 (by omega) hf.2.1.2) fun b hb => ?_
  refine tb (laws_markFaultS.sp (by omega) (by omega) hf.2.2 (by omega)) fun c hc => tl ⟨by omega, fun p on => ?_⟩
  rw [laws_heldDisk.t_eq]
  dsimp only [laws_heldDisk.m]
  refine Tells.eq ?_
  have sa : wSum List.length a.2 = wSum List.length x.1 := by simp only [wSum, ha.2.2]
  have sb : wSum ww b.2 = wSum ww x.2.1 := by simp only [wSum, hb.2.2]
  have sc : wSum (fun _ : Int × Int × Int => 3) c.2 = wSum (fun _ : Int × Int × Int => 3) x.2.2.2.1 := by
    have h : ∀ l : List (Int × Int × Int), wSum (fun _ : Int × Int × Int => 3) l = 3 * l.length := fun l => by
      induction l with
      | nil => rfl
      | cons y l ih => rw [wSum_cons, ih, List.length_cons]; omega
    rw [h, h, hc.2.2]
  refine tc (a := a.1) ?_ (tn (by omega) (tc (a := b.1) ?_ (tn (by omega) (tc (a := c.1) ?_ (tn (by omega) (tl rfl))))))
  · rw [laws_heldByteSS.sp (by omega) h0 (by rw [map_len ha.2.2]; exact hf.1.1) (map_all ha.2.2 (P := fun n => n ≤ 140737488351232) hf.1.2) (by rw [sa]; omega) ha.2.1, sa, ha.1]
  · have hw : ∀ y ∈ b.2, ww y ≤ 140737488351233 := map_all hb.2.2 (P := fun n => n ≤ 140737488351233) fun y hy => by have := hf.2.1.2 y hy; unfold ww; omega
    rw [laws_heldWriteS.sp (by omega) hb0 (by rw [map_len hb.2.2]; exact hf.2.1.1) (fun y hy => by have := hw y hy; unfold ww at this; omega) (by rw [sb]; omega) hb.2.1, sb, hb.1]
  · rw [laws_heldFaultS.sp (by omega) (by omega) (by rw [hc.2.2]; exact hf.2.2) (by rw [sc]; omega) hc.2.1, sc, hc.1]
def noDk : Dk := ([], [], 0, [], false)
def newDk (n : Int) (fs : List (Int × Int × Int)) : Dk := if inB n 4 48 = true ∧ faultsOkM fs = true then (List.replicate n.toNat [], [], 0, fs, false) else noDk
theorem newDk_fit {n : Int} {fs : List (Int × Int × Int)} : dkFit (newDk n fs) ∧ dkW (newDk n fs) ≤ 1000 := by
  unfold newDk
  split
  · rename_i h
    have h1 := inB_iff.1 h.1
    have h2 := h.2
    unfold faultsOkM at h2
    simp only [Bool.and_eq_true, decide_eq_true_eq] at h2
    have hs : ∀ k : Nat, wSum List.length (List.replicate k ([] : List Int)) = 0 := fun k => by simp [wSum]
    have hq : ∀ l : List (Int × Int × Int), wSum (fun _ : Int × Int × Int => 3) l = 3 * l.length := fun l => by
      induction l with
      | nil => rfl
      | cons y l ih => rw [wSum_cons, ih, List.length_cons]; omega
    refine ⟨⟨⟨by simp; omega, fun y hy => by rw [(List.mem_replicate.1 hy).2]; simp⟩, ⟨by simp, fun y hy => by cases hy⟩, by simp only; omega⟩, ?_⟩
    simp only [dkW, hs, hq]
    simp only [wSum, List.map_nil, List.sum_nil]
    omega
  · exact ⟨⟨⟨by simp [noDk], fun y hy => by cases hy⟩, ⟨by simp [noDk], fun y hy => by cases hy⟩, by simp [noDk]⟩, by simp [noDk, dkW, wSum]⟩
theorem spec_DiskNew.sp {d : Nat} (hd : 3 ≤ d) {n : Int} {fs : List (Int × Int × Int)} (hl : fs.length ≤ 1048576) : spec_DiskNew.f d (n, fs) = some (newDk n fs) := by
  obtain ⟨d, rfl, _⟩ := dep hd
  rw [spec_DiskNew.t_eq]
  dsimp only [spec_DiskNew.m]
  refine Tells.eq ?_
  refine tc (spec_l1In.sp (by omega) _ _ _) (tbif (fun c => tl (by simp at c; simp [newDk, c, noDk])) fun c => ?_)
  refine tc (spec_l12Faults.sp (by omega) hl) (tbif (fun c2 => tl (by simp at c2; simp [newDk, c2, noDk])) fun c2 => ?_)
  simp only [Bool.not_eq_false'] at c c2
  have e : newDk n fs = (List.replicate n.toNat [], [], 0, fs, false) := by unfold newDk; rw [if_pos ⟨c, c2⟩]
  rw [e]
  have hn := inB_iff.1 c
  refine tp (by simp only [List.length_nil, Nat.zero_add]; omega) ?_
  have hz : n = ((n.toNat : Nat) : Int) := by omega
  refine loop0 (σ := List (List Int)) (spec_DiskNew.S0 d) n.toNat (fun st i => (n, i, [], [], 0, [], false, st, [], 0, [] ++ fs, false)) (fun st i => st = List.replicate i []) (fun _ _ r => r = (List.replicate n.toNat [], [], 0, fs, false)) [] (by omega) rfl ?_ ?_
  · rintro L st rfl
    dsimp only [spec_DiskNew.S0, spec_DiskNew.s0]
    exact tn (by omega) (tl rfl)
  · rintro L st i rfl hi ih
    dsimp only [spec_DiskNew.S0, spec_DiskNew.s0]
    refine tp (by omega) (tp (by simp; omega) ?_)
    rw [wrap_succ (by omega)]
    exact ih _ (by rw [List.replicate_succ'])
theorem impl_DiskNew.sp {d : Nat} (hd : 3 ≤ d) {n : Int} {fs : List (Int × Int × Int)} (hl : fs.length ≤ 1048576) : impl_DiskNew.f d (n, fs) = some (newDk n fs) := by
  obtain ⟨d, rfl, _⟩ := dep hd
  rw [impl_DiskNew.t_eq]
  dsimp only [impl_DiskNew.m]
  refine Tells.eq ?_
  refine tc (impl_in.sp (by omega) _ _ _) (tbif (fun c => tl (by simp at c; simp [newDk, c, noDk])) fun c => ?_)
  simp only [Bool.not_eq_false'] at c
  have hn := inB_iff.1 c
  refine tt (by simp; omega) (tp (by simp only [List.length_nil, Nat.zero_add]; omega) ?_)
  refine tc (impl_DiskOk.sp (by omega) (by simp; omega) (by simp) (by simpa using hl)) ?_
  have e : diskOkM (List.replicate n.toNat []) [] 0 ([] ++ fs) false = faultsOkM fs := by
    unfold diskOkM
    have h1 : (List.replicate n.toNat ([] : List Int)).all secOk = true := List.all_eq_true.2 fun x hx => by rw [(List.mem_replicate.1 hx).2]; rfl
    have h2 : ((List.replicate n.toNat ([] : List Int)).length : Int) = n := by simp; omega
    rw [h1, h2, c]
    simp [inB]
  rw [e]
  refine tbif (fun c2 => tl (by simp at c2; simp [newDk, c2, noDk])) fun c2 => tl ?_
  simp only [Bool.not_eq_false'] at c2
  unfold newDk
  rw [if_pos ⟨c, c2⟩]
  rfl
theorem laws_FnExactDiskNew.pure {d : Nat} (hd : 5 ≤ d) {n : Int} {fs : List (Int × Int × Int)} (_ : okV (.int .i64) n) (hl0 : okV (.row K0) fs) : laws_FnExactDiskNew.f d (n, fs) = some true := by
  have hl : fs.length ≤ 140737488351232 := Nat.le_trans (Nat.le_mul_of_pos_right _ (by decide)) hl0.1
  obtain ⟨d, rfl, _⟩ := dep hd
  rw [laws_FnExactDiskNew.t_eq]
  dsimp only [laws_FnExactDiskNew.m]
  refine Tells.eq ?_
  refine tb (laws_szFaultS.sp (by omega) (by omega) (by omega) hl) fun r hr => tif (fun _ => tl rfl) fun h => ?_
  have hs : fs.length ≤ 1048576 := by have := hr.2 (by omega); omega
  have to := laws_toFaultS.sp (d := d) (by omega) hs
  have fit := newDk_fit (n := n) (fs := fs)
  have eq := laws_eqDisk.self (d := d) (by omega) fit.1
  refine tc to (tc (spec_DiskNew.sp (by omega) hs) (tc to (tc (impl_DiskNew.sp (by omega) hs) (tc eq (tf rfl ?_)))))
  refine tc to (tc (laws_eqFaultS.self (by omega) hl) (tf rfl ?_))
  refine tb (laws_markFaultS.sp (by omega) (by omega) hl (n := 1) ?_) fun r9 h9 => tn ?_ ?_
  · have hq : ∀ l : List (Int × Int × Int), wSum (fun _ : Int × Int × Int => 3) l = 3 * l.length := fun l => by
      induction l with
      | nil => rfl
      | cons y l ih => rw [wSum_cons, ih, List.length_cons]; omega
    rw [hq]; omega
  · omega
  refine tc eq (tf rfl ?_)
  refine tb (laws_markDisk.held (d := d) (d2 := d) (by omega) (by omega) (by omega) fit.1 (by have := fit.2; omega)) fun r11 h11 => ?_
  refine tc (h11.2 _ _) (tn (by omega) (tf (by simp) ?_))
  refine tc to (tc (impl_DiskNew.sp (by omega) hs) (tc eq (tf rfl ?_)))
  exact tc (h11.2 _ _) (tn (by omega) (tf (by simp) (tl rfl)))
end Go.PV.T
