/- Functions of the program by their own lists and numbers. No condition beyond those in each statement. -/
import Derived.Test.YticedidmodmdnaaPvRSx2
set_option linter.unusedVariables false
namespace Go.PV.T
open Go.Proofs
theorem laws_szFaultS.sp {d : Nat} (hd : 1 ≤ d) {l : List (Int × Int × Int)} {left : Int} (h0 : 0 ≤ left) (h1 : left ≤ 1048576) (hl : l.length ≤ 140737488351232) :
    Tells (laws_szFaultS.f d (l, left)) fun r => r ≤ left ∧ (0 ≤ r → (l.length : Int) ≤ left - r) := by
  obtain ⟨d, rfl, hd⟩ := dep hd
  rw [laws_szFaultS.t_eq]
  dsimp only [laws_szFaultS.m]
  rw [wrap_id (by omega) (by omega)]
  exact tif (fun h => tl ⟨by omega, by omega⟩) fun h => tl ⟨by omega, by omega⟩
theorem laws_toFault.sp {d : Nat} (hd : 1 ≤ d) (a : Int × Int × Int) : laws_toFault.f d (a.1, a.2.1, a.2.2) = some a := by
  obtain ⟨d, rfl, hd⟩ := dep hd
  rw [laws_toFault.t_eq]
  rfl
/-- a row of the same length that is filled element by element -/
theorem fill_step {α : Type} {l s : List α} {i : Nat} (hl : s.length = l.length) (ht : s.take i = l.take i) (hi : i < l.length) : (s.set i l[i]).take (i + 1) = l.take (i + 1) := by
  rw [List.take_add_one, List.take_add_one, List.take_set_of_le (Nat.le_refl i), ht, List.getElem?_set_self (by omega)]
  simp [hi]
theorem laws_toFaultS.sp {d : Nat} (hd : 2 ≤ d) {l : List (Int × Int × Int)} (hl : l.length ≤ 1048576) : laws_toFaultS.f d l = some l := by
  obtain ⟨d, rfl, hd⟩ := dep hd
  rw [laws_toFaultS.t_eq]
  dsimp only [laws_toFaultS.m]
  refine Tells.eq (tt (by simp; omega) ?_)
  refine loop0 (laws_toFaultS.S0 d) l.length (fun st i => (l, i, st)) (fun st i => st.length = l.length ∧ st.take i = l.take i) (fun _ _ r => r = l) _ (by omega) (by simp) ?_ ?_
  · rintro L st ⟨h1, h2⟩
    dsimp only [laws_toFaultS.S0, laws_toFaultS.s0]
    refine tn (by omega) (tl ?_)
    rwa [← h1, List.take_length, h1, List.take_length] at h2
  · rintro L st i ⟨h1, h2⟩ hi ih
    dsimp only [laws_toFaultS.S0, laws_toFaultS.s0]
    refine tp (by omega) (ti hi ?_)
    rw [getD_in hi]
    refine tc (laws_toFault.sp (by omega) _) (ti (by omega) ?_)
    rw [wrap_succ (by omega)]
    have hi' : i < st.length := by omega
    have := ih (st.set i l[i]) ⟨by simp [h1], fill_step h1 h2 hi⟩
    simpa [hi'] using this
def inB (a lo hi : Int) : Bool := decide (lo ≤ a) && decide (a ≤ hi)
theorem inB_iff {a lo hi : Int} : inB a lo hi = true ↔ lo ≤ a ∧ a ≤ hi := by simp [inB]
theorem in_def (a lo hi : Int) : (bif decide (a ≥ lo) then some (decide (a ≤ hi)) else some false) = some (inB a lo hi) := by
  by_cases h : lo ≤ a <;> simp [inB, h]
theorem impl_in.sp {d : Nat} (hd : 1 ≤ d) (a lo hi : Int) : impl_in.f d (a, lo, hi) = some (inB a lo hi) := by
  obtain ⟨d, rfl, hd⟩ := dep hd
  rw [impl_in.t_eq]
  exact in_def a lo hi
theorem spec_l1In.sp {d : Nat} (hd : 1 ≤ d) (a lo hi : Int) : spec_l1In.f d (a, lo, hi) = some (inB a lo hi) := by
  obtain ⟨d, rfl, hd⟩ := dep hd
  rw [spec_l1In.t_eq]
  exact in_def a lo hi
def fOk (x : Int × Int × Int) : Bool := inB x.1 0 100000 && (inB x.2.1 0 1048575 && inB x.2.2 0 256)
def faultsM : Option (Int × Int × Int) → List (Int × Int × Int) → Bool
  | _, [] => true
  | p, x :: r => fOk x && (match p with
    | none => faultsM (some x) r
    | some y => !decide (y.1 ≥ x.1) && faultsM (some x) r)
def before (fs : List (Int × Int × Int)) (i : Nat) : Option (Int × Int × Int) := if i = 0 then none else fs[i - 1]?
theorem before_succ {fs : List (Int × Int × Int)} {i : Nat} (h : i < fs.length) : before fs (i + 1) = some fs[i] := by
  unfold before
  rw [if_neg (by omega), show i + 1 - 1 = i by omega]
  simp [h]
/-- what both rounds over the faults tell -/
theorem faults_round {fs : List (Int × Int × Int)} {i : Nat} {k : Bool} {x : Option Bool} (hi : i < fs.length) (hl : fs.length ≤ 1048576) {c : Int × Int × Int → Option Bool} (hc : ∀ a lo hi, c (a, lo, hi) = some (inB a lo hi))
    (ih : Tells x (· = (faultsM (before fs (i + 1)) (fs.drop (i + 1)) && k))) (b1 b2 b3 : Bool) (h1 : b1 = true) (h2 : b2 = true) (h3 : b3 = true) :
    Tells (Option.bind (c (fs[i].1, 0, 100000)) fun r1 => bif !r1 then some false else bif b1 then
      Option.bind (c (fs[i].2.1, 0, 1048575)) fun r2 => bif !r2 then some false else bif b2 then
        Option.bind (c (fs[i].2.2, 0, 256)) fun r3 => bif !r3 then some false else
          bif decide ((i : Int) > 0) then
            bif decide (0 ≤ IntKind.wrap IntKind.i64 ((i : Int) - 1)) && decide (IntKind.wrap IntKind.i64 ((i : Int) - 1) < (fs.length : Int)) then
              bif b3 then
                bif decide ((List.getD fs (Int.toNat (IntKind.wrap IntKind.i64 ((i : Int) - 1))) ((0 : Int), (0 : Int), (0 : Int))).1 ≥ fs[i].1) then some false else x
              else none
            else none
          else x
        else none
      else none) (· = (faultsM (before fs i) (fs.drop i) && k)) := by
  subst h1 h2 h3
  rw [drop_at hi, before_succ hi] at *
  simp only [faultsM, fOk]
  refine tc (hc _ _ _) (tbif (fun h => tl (by simp at h; simp [h])) fun h => ?_)
  refine tc (hc _ _ _) (tbif (fun h' => tl (by simp at h'; simp [h'])) fun h' => ?_)
  refine tc (hc _ _ _) (tbif (fun h'' => tl (by simp at h''; simp [h''])) fun h'' => ?_)
  simp only [Bool.not_eq_false'] at h h' h''
  rw [h, h', h'']
  by_cases h0 : i = 0
  · subst h0
    refine tn (by omega) ?_
    simpa [before] using ih
  · have hb : before fs i = some fs[i - 1] := by unfold before; rw [if_neg h0]; simp
    have e : IntKind.wrap IntKind.i64 ((i : Int) - 1) = ((i - 1 : Nat) : Int) := by rw [wrap_id (by omega) (by omega)]; omega
    rw [hb, e]
    refine tp (by omega) (ti (by omega) (tt rfl ?_))
    rw [getD_in (by omega)]
    refine tif (fun c => tl ?_) fun c => ?_
    · simp only [decide_eq_true c]; simp
    · simp only [decide_eq_false c]; simpa using ih
def faultsOkM (fs : List (Int × Int × Int)) : Bool := faultsM none fs && decide ((fs.length : Int) ≤ 20)
def secOk (x : List Int) : Bool := decide ((x.length : Int) ≤ 256)
def wrOk (n : Int) (w : Int × List Int) : Bool := inB w.1 0 (n - 1) && decide ((w.2.length : Int) ≤ 256)
abbrev Dk := (List (List Int)) × (List (Int × (List Int))) × Int × (List (Int × Int × Int)) × Bool
def diskOkM (ss : List (List Int)) (ws : List (Int × List Int)) (p : Int) (fs : List (Int × Int × Int)) (on : Bool) : Bool :=
  ss.all secOk && ws.all (wrOk ss.length) && inB ss.length 4 48 && decide ((ws.length : Int) ≤ 60) && inB p 0 100000 && faultsOkM fs && (!on || decide (ws.length = 0))
/-- a test of each element -/
theorem loopAll {A β : Type} (s : (A → Option Bool) → A → Option Bool) (l : List β) (mk : Int → A) (p : β → Bool) (e : Bool) (hn : l.length ≤ 4611686018427387904)
    (base : ∀ L, Tells (s L (mk (l.length : Int))) (· = e))
    (step : ∀ L i (hi : i < l.length), (∀ e', Tells (L (mk ((i + 1 : Nat) : Int))) (· = e') → Tells (s L (mk (i : Int))) (· = (p l[i] && e')))) :
    Tells (iter s rnds (mk (0 : Int))) (· = (l.all p && e)) := by
  have := loopE s l.length mk (fun i r => r = ((l.drop i).all p && e)) hn (fun L => (base L).mono fun r h => by simp [h]) fun L i hi ih => by
    rw [drop_at hi, List.all_cons, Bool.and_assoc]
    exact step L i hi _ ih
  simpa using this
theorem laws_eqByteS.self {d : Nat} (hd : 1 ≤ d) {l : List Int} (hl : l.length ≤ 140737488351232) : laws_eqByteS.f d (l, l) = some true := by
  obtain ⟨d, rfl, _⟩ := dep hd
  rw [laws_eqByteS.t_eq]
  refine Tells.eq ?_
  dsimp only [laws_eqByteS.m]
  refine tf (by simp) ?_
  refine loopE (laws_eqByteS.S0 d) l.length (fun i => (l, l, i)) (fun _ r => r = true) (by omega) (fun L => ?_) fun L i hi ih => ?_
  · dsimp only [laws_eqByteS.S0, laws_eqByteS.s0]
    exact tn (by omega) (tl rfl)
  · dsimp only [laws_eqByteS.S0, laws_eqByteS.s0]
    refine tp (by omega) (ti hi (ti hi (tf (by simp) ?_)))
    rwa [wrap_succ (by omega)]
theorem laws_eqByteSS.self {d : Nat} (hd : 2 ≤ d) {l : List (List Int)} (hl : l.length ≤ 140737488351232) (hx : ∀ x ∈ l, x.length ≤ 140737488351232) : laws_eqByteSS.f d (l, l) = some true := by
  obtain ⟨d, rfl, _⟩ := dep hd
  rw [laws_eqByteSS.t_eq]
  refine Tells.eq ?_
  dsimp only [laws_eqByteSS.m]
  refine tf (by simp) ?_
  refine loopE (laws_eqByteSS.S0 d) l.length (fun i => (l, l, i)) (fun _ r => r = true) (by omega) (fun L => ?_) fun L i hi ih => ?_
  · dsimp only [laws_eqByteSS.S0, laws_eqByteSS.s0]
    exact tn (by omega) (tl rfl)
  · dsimp only [laws_eqByteSS.S0, laws_eqByteSS.s0]
    refine tp (by omega) (ti hi (ti hi ?_))
    rw [getD_in hi, wrap_succ (by omega)]
    exact tc (laws_eqByteS.self (by omega) (hx _ (List.getElem_mem hi))) (tf rfl ih)
theorem laws_eqFault.self {d : Nat} (hd : 1 ≤ d) (a : Int × Int × Int) : laws_eqFault.f d (a.1, a.2.1, a.2.2, a.1, a.2.1, a.2.2) = some true := by
  obtain ⟨d, rfl, _⟩ := dep hd
  rw [laws_eqFault.t_eq]
  simp [laws_eqFault.m]
theorem laws_eqFaultS.self {d : Nat} (hd : 2 ≤ d) {l : List (Int × Int × Int)} (hl : l.length ≤ 140737488351232) : laws_eqFaultS.f d (l, l) = some true := by
  obtain ⟨d, rfl, _⟩ := dep hd
  rw [laws_eqFaultS.t_eq]
  refine Tells.eq ?_
  dsimp only [laws_eqFaultS.m]
  refine tf (by simp) ?_
  refine loopE (laws_eqFaultS.S0 d) l.length (fun i => (l, l, i)) (fun _ r => r = true) (by omega) (fun L => ?_) fun L i hi ih => ?_
  · dsimp only [laws_eqFaultS.S0, laws_eqFaultS.s0]
    exact tn (by omega) (tl rfl)
  · dsimp only [laws_eqFaultS.S0, laws_eqFaultS.s0]
    refine tp (by omega) (ti hi (ti hi ?_))
    rw [wrap_succ (by omega)]
    exact tc (laws_eqFault.self (by omega) _) (tf rfl ih)
theorem laws_eqWrite.self {d : Nat} (hd : 2 ≤ d) {a : Int × List Int} (hl : a.2.length ≤ 140737488351232) : laws_eqWrite.f d (a.1, a.2, a.1, a.2) = some true := by
  obtain ⟨d, rfl, _⟩ := dep hd
  rw [laws_eqWrite.t_eq]
  refine Tells.eq ?_
  dsimp only [laws_eqWrite.m]
  exact tf (by simp) (tc (laws_eqByteS.self (by omega) hl) (tf rfl (tl rfl)))
theorem laws_eqWriteS.self {d : Nat} (hd : 3 ≤ d) {l : List (Int × List Int)} (hl : l.length ≤ 140737488351232) (hx : ∀ x ∈ l, x.2.length ≤ 140737488351232) : laws_eqWriteS.f d (l, l) = some true := by
  obtain ⟨d, rfl, _⟩ := dep hd
  rw [laws_eqWriteS.t_eq]
  refine Tells.eq ?_
  dsimp only [laws_eqWriteS.m]
  refine tf (by simp) ?_
  refine loopE (laws_eqWriteS.S0 d) l.length (fun i => (l, l, i)) (fun _ r => r = true) (by omega) (fun L => ?_) fun L i hi ih => ?_
  · dsimp only [laws_eqWriteS.S0, laws_eqWriteS.s0]
    exact tn (by omega) (tl rfl)
  · dsimp only [laws_eqWriteS.S0, laws_eqWriteS.s0]
    refine tp (by omega) (ti hi (ti hi ?_))
    rw [getD_in hi, wrap_succ (by omega)]
    exact tc (laws_eqWrite.self (by omega) (hx _ (List.getElem_mem hi))) (tf rfl ih)
/-- a disk's rows are no longer than memory holds -/
def dkFit (x : Dk) : Prop := (x.1.length ≤ 140737488351232 ∧ ∀ y ∈ x.1, y.length ≤ 140737488351232) ∧ (x.2.1.length ≤ 140737488351232 ∧ ∀ y ∈ x.2.1, y.2.length ≤ 140737488351232) ∧ x.2.2.2.1.length ≤ 140737488351232
theorem laws_eqDisk.self {d : Nat} (hd : 4 ≤ d) {x : Dk} (h : dkFit x) : laws_eqDisk.f d (x.1, x.2.1, x.2.2.1, x.2.2.2.1, x.2.2.2.2, x.1, x.2.1, x.2.2.1, x.2.2.2.1, x.2.2.2.2) = some true := by
  obtain ⟨d, rfl, _⟩ := dep hd
  rw [laws_eqDisk.t_eq]
  refine Tells.eq ?_
  dsimp only [laws_eqDisk.m]
  refine tc (laws_eqByteSS.self (by omega) h.1.1 h.1.2) (tf rfl ?_)
  refine tc (laws_eqWriteS.self (by omega) h.2.1.1 h.2.1.2) (tf rfl (tf (by simp) ?_))
  exact tc (laws_eqFaultS.self (by omega) h.2.2) (tf rfl (tf (by simp) (tl rfl)))
def Mb (n : Int) (x : Int) : Prop := x = IntKind.wrap IntKind.u8 n
abbrev MkB := MkL (fun _ : Int => 1) Mb
theorem sum_one {α : Type} (l : List α) : wSum (fun _ => 1) l = l.length := by induction l with
  | nil => rfl
  | cons a l ih => rw [wSum_cons, ih, List.length_cons]; omega
def Mf (n : Int) (x : Int × Int × Int) : Prop := x = (n, n + 1, n + 2)
abbrev MkF := MkL (fun _ : Int × Int × Int => 3) Mf
abbrev MkBB := MkL (fun x : List Int => x.length) MkB
def Mw (n : Int) (x : Int × List Int) : Prop := x.1 = n ∧ MkB (n + 1) x.2
def ww (x : Int × List Int) : Nat := x.2.length + 1
abbrev MkW := MkL ww Mw
theorem laws_markByteS.sp {d : Nat} (hd : 1 ≤ d) {l : List Int} {n : Int} (h0 : 0 ≤ n) (hl : l.length ≤ 140737488351232) (hn : n + l.length ≤ 4611686018427387904) :
    Tells (laws_markByteS.f d (l, n)) (fun r => r.1 = n + l.length ∧ MkB n r.2 ∧ r.2.length = l.length) := by
  obtain ⟨d, rfl, _⟩ := dep hd
  rw [laws_markByteS.t_eq]
  dsimp only [laws_markByteS.m]
  refine (loopMark (w := fun _ => 1) (M := Mb) (laws_markByteS.S0 d) h0 (by rw [sum_one]; exact hn) hl (fun L n st h => ?_) fun L n st i Q hi h hwx h0 hn ih => ?_).mono fun r hr => ?_
  · dsimp only [laws_markByteS.S0, laws_markByteS.s0]
    exact tn (by omega) (tl rfl)
  · dsimp only [laws_markByteS.S0, laws_markByteS.s0]
    refine tp (by omega) (ti hi ?_)
    rw [wrap_succ (by omega), wrapn (by omega) (by omega)]
    exact ih _ rfl rfl
  · rw [sum_one] at hr
    exact ⟨hr.1, hr.2.1, by simpa using congrArg List.length hr.2.2⟩
theorem laws_heldByteS.sp {d : Nat} (hd : 1 ≤ d) {l : List Int} {n : Int} (h0 : 0 ≤ n) (hl : l.length ≤ 140737488351232) (hn : n + l.length ≤ 4611686018427387904) (hm : MkB n l) : laws_heldByteS.f d (l, n) = some (n + l.length) := by
  obtain ⟨d, rfl, _⟩ := dep hd
  rw [laws_heldByteS.t_eq]
  dsimp only [laws_heldByteS.m]
  refine Tells.eq ?_
  have := loopHeld (w := fun _ => 1) (M := Mb) (laws_heldByteS.S0 d) h0 (by rw [sum_one]; exact hn) hl hm (fun L n => ?_) fun L n i Q hi h0 hn hM ih => ?_
  · rw [sum_one] at this; exact this
  · dsimp only [laws_heldByteS.S0, laws_heldByteS.s0]
    exact tn (by omega) (tl rfl)
  · dsimp only [laws_heldByteS.S0, laws_heldByteS.s0]
    refine tp (by omega) (ti hi ?_)
    rw [getD_in hi, wrap_succ (by omega), wrapn (by omega) (by omega), hM]
    exact tf (by simp) ih
theorem laws_markFaultS.sp {d : Nat} (hd : 1 ≤ d) {l : List (Int × Int × Int)} {n : Int} (h0 : 0 ≤ n) (hl : l.length ≤ 140737488351232) (hn : n + wSum (fun _ : Int × Int × Int => 3) l ≤ 4611686018427387904) :
    Tells (laws_markFaultS.f d (l, n)) (fun r => r.1 = n + wSum (fun _ : Int × Int × Int => 3) l ∧ MkF n r.2 ∧ r.2.length = l.length) := by
  obtain ⟨d, rfl, _⟩ := dep hd
  rw [laws_markFaultS.t_eq]
  dsimp only [laws_markFaultS.m]
  refine (loopMark (w := fun _ => 3) (M := Mf) (laws_markFaultS.S0 d) h0 hn hl (fun L n st h => ?_) fun L n st i Q hi h hwx h0 hn ih => ?_).mono fun r hr => ⟨hr.1, hr.2.1, by simpa using congrArg List.length hr.2.2⟩
  · dsimp only [laws_markFaultS.S0, laws_markFaultS.s0]
    exact tn (by omega) (tl rfl)
  · dsimp only [laws_markFaultS.S0, laws_markFaultS.s0]
    refine tp (by omega) (ti hi (tt ?_ (tt ?_ ?_)))
    · simp [hi]
    · simp [hi]
    · have := ih (n, n + 1, n + 2) rfl rfl
      rw [wrap_succ (by omega), wrapn (x := n + 1) (by omega) (by omega), show n + 1 + 1 = n + 2 by omega, wrapn (x := n + 2) (by omega) (by omega), show n + 2 + 1 = n + ((3 : Nat) : Int) by omega, wrapn (x := n + ((3 : Nat) : Int)) (by omega) (by omega)]
      simpa [hi] using this
theorem laws_markByteSS.sp {d : Nat} (hd : 2 ≤ d) {l : List (List Int)} {n : Int} (h0 : 0 ≤ n) (hl : l.length ≤ 140737488351232) (hx : ∀ x ∈ l, x.length ≤ 140737488351232) (hn : n + wSum List.length l ≤ 4611686018427387904) :
    Tells (laws_markByteSS.f d (l, n)) (fun r => r.1 = n + wSum List.length l ∧ MkBB n r.2 ∧ r.2.map List.length = l.map List.length) := by
  obtain ⟨d, rfl, _⟩ := dep hd
  rw [laws_markByteSS.t_eq]
  dsimp only [laws_markByteSS.m]
  refine loopMark (w := fun x : List Int => x.length) (M := MkB) (laws_markByteSS.S0 d) h0 hn hl (fun L n st h => ?_) fun L n st i Q hi h hwx h0 hn ih => ?_
  · dsimp only [laws_markByteSS.S0, laws_markByteSS.s0]
    exact tn (by omega) (tl rfl)
  · dsimp only [laws_markByteSS.S0, laws_markByteSS.s0]
    refine tp (by omega) (ti hi ?_)
    rw [getD_in hi, wrap_succ (by omega)]
    obtain ⟨x, hx1, hx2⟩ := hwx
    have := hx x hx1
    refine tb (laws_markByteS.sp (by omega) h0 (by omega) hn) fun a ha => ?_
    rw [ha.1]
    exact ih _ ha.2.2 ha.2.1
theorem laws_markWriteS.sp {d : Nat} (hd : 2 ≤ d) {l : List (Int × List Int)} {n : Int} (h0 : 0 ≤ n) (hl : l.length ≤ 140737488351232) (hn : n + wSum ww l ≤ 4611686018427387904) (hx : ∀ x ∈ l, x.2.length ≤ 140737488351232) :
    Tells (laws_markWriteS.f d (l, n)) (fun r => r.1 = n + wSum ww l ∧ MkW n r.2 ∧ r.2.map ww = l.map ww) := by
  obtain ⟨d, rfl, _⟩ := dep hd
  rw [laws_markWriteS.t_eq]
  dsimp only [laws_markWriteS.m]
  refine loopMark (w := ww) (M := Mw) (laws_markWriteS.S0 d) h0 hn hl (fun L n st h => ?_) fun L n st i Q hi h hwx h0 hn ih => ?_
  · dsimp only [laws_markWriteS.S0, laws_markWriteS.s0]
    exact tn (by omega) (tl rfl)
  · dsimp only [laws_markWriteS.S0, laws_markWriteS.s0]
    refine tp (by omega) (ti hi (tt (by simp [hi]) ?_))
    have e : ∀ z, List.getD (List.set st (Int.toNat (i : Int)) (n, (List.getD st (Int.toNat (i : Int)) ((0 : Int), ([] : List Int))).2)) (Int.toNat (i : Int)) z = (n, st[i].2) := fun z => by simp [hi]
    simp only [e]
    obtain ⟨x, hx1, hx2⟩ := hwx
    have := hx x hx1
    unfold ww at hn hx2
    rw [wrap_succ (by omega), wrapn (by omega) (by omega)]
    refine tb (laws_markByteS.sp (by omega) (by omega) (by omega) (by omega)) fun a ha => ?_
    have := ih (n, a.2) (by simp [ww, ha.2.2]) ⟨rfl, ha.2.1⟩
    rw [ha.1]
    unfold ww at this
    rw [show n + 1 + (st[i].2.length : Int) = n + ((st[i].2.length + 1 : Nat) : Int) by omega]
    simpa [hi] using this
def dkW (x : Dk) : Nat := wSum List.length x.1 + wSum ww x.2.1 + wSum (fun _ : Int × Int × Int => 3) x.2.2.2.1
theorem map_len {α β : Type} {f : α → β} {a b : List α} (h : a.map f = b.map f) : a.length = b.length := by simpa using congrArg List.length h
theorem map_all {α β : Type} {f : α → β} {a b : List α} (h : a.map f = b.map f) {P : β → Prop} (hb : ∀ x ∈ b, P (f x)) : ∀ x ∈ a, P (f x) := fun x hx => by
  have := List.mem_map_of_mem (f := f) hx
  rw [h] at this
  obtain ⟨y, hy, e⟩ := List.mem_map.1 this
  rw [← e]; exact hb y hy
theorem laws_markDisk.nn {d : Nat} (hd : 3 ≤ d) {x : Dk} {n : Int} (h0 : 0 ≤ n) (hf : dkFit x) (hn : n + dkW x ≤ 4611686018427387904) :
    Tells (laws_markDisk.f d (x.1, x.2.1, x.2.2.1, x.2.2.2.1, x.2.2.2.2, n)) (fun r => 0 ≤ r.1) := by
  obtain ⟨d, rfl, _⟩ := dep hd
  rw [laws_markDisk.t_eq]
  dsimp only [laws_markDisk.m]
  unfold dkW at hn
  refine tb (laws_markByteSS.sp (by omega) h0 hf.1.1 hf.1.2 (by omega)) fun a ha => ?_
  refine tb (laws_markWriteS.sp (by omega) (by omega) hf.2.1.1 (by omega) hf.2.1.2) fun b hb => ?_
  exact tb (laws_markFaultS.sp (by omega) (by omega) hf.2.2 (by omega)) fun c hc => tl (by omega)
def noDk : Dk := ([], [], 0, [], false)
def newDk (n : Int) (fs : List (Int × Int × Int)) : Dk := if inB n 4 48 = true ∧ faultsOkM fs = true then (List.replicate n.toNat [], [], 0, fs, false) else noDk
theorem newDk_fit {n : Int} {fs : List (Int × Int × Int)} : dkFit (newDk n fs) ∧ dkW (newDk n fs) ≤ 1000 := by
  unfold newDk
  split
  · rename_i h
    have h1 := inB_iff.1 h.1
    have h2 := h.2
    unfold faultsOkM at h2
    simp only [Bool.and_eq_true, decide_eq_true_eq] at h2
    have hs : ∀ k : Nat, wSum List.length (List.replicate k ([] : List Int)) = 0 := fun k => by simp [wSum]
    have hq : ∀ l : List (Int × Int × Int), wSum (fun _ : Int × Int × Int => 3) l = 3 * l.length := fun l => by
      induction l with
      | nil => rfl
      | cons y l ih => rw [wSum_cons, ih, List.length_cons]; omega
    refine ⟨⟨⟨by simp; omega, fun y hy => by rw [(List.mem_replicate.1 hy).2]; simp⟩, ⟨by simp, fun y hy => by cases hy⟩, by simp only; omega⟩, ?_⟩
    simp only [dkW, hs, hq]
    simp only [wSum, List.map_nil, List.sum_nil]
    omega
  · exact ⟨⟨⟨by simp [noDk], fun y hy => by cases hy⟩, ⟨by simp [noDk], fun y hy => by cases hy⟩, by simp [noDk]⟩, by simp [noDk, dkW, wSum]⟩
theorem laws_szByteS.sp {d : Nat} (hd : 1 ≤ d) {l : List Int} {left : Int} (h0 : 0 ≤ left) (h1 : left ≤ 1048576) (hl : l.length ≤ 140737488351232) :
    Tells (laws_szByteS.f d (l, left)) fun r => r ≤ left ∧ (0 ≤ r → (l.length : Int) ≤ left - r) := by
  obtain ⟨d, rfl, _⟩ := dep hd
  rw [laws_szByteS.t_eq]
  dsimp only [laws_szByteS.m]
  rw [wrap_id (by omega) (by omega)]
  exact tif (fun h => tl ⟨by omega, by omega⟩) fun h => tl ⟨by omega, by omega⟩
theorem laws_szByteSS.sp {d : Nat} (hd : 2 ≤ d) {l : List (List Int)} {left : Int} (h0 : 0 ≤ left) (h1 : left ≤ 1048576) (hl : l.length ≤ 140737488351232) (hx : ∀ x ∈ l, x.length ≤ 140737488351232) :
    Tells (laws_szByteSS.f d (l, left)) fun r => r ≤ left ∧ (0 ≤ r → (l.length : Int) + wSum List.length l ≤ left - r) := by
  obtain ⟨d, rfl, _⟩ := dep hd
  rw [laws_szByteSS.t_eq]
  dsimp only [laws_szByteSS.m]
  rw [wrap_id (by omega) (by omega)]
  refine tif (fun h => tl ⟨by omega, by omega⟩) fun h => ?_
  refine (loopSz (w := List.length) (laws_szByteSS.S0 d) (by omega) hl (fun L st => ?_) fun L st i Q hi h0 h1 hq ih => ?_).mono fun r hr => ⟨by omega, fun h => by have := hr.2 h; omega⟩
  · dsimp only [laws_szByteSS.S0, laws_szByteSS.s0]
    exact tn (by omega) (tl rfl)
  · dsimp only [laws_szByteSS.S0, laws_szByteSS.s0]
    refine tp (by omega) (ti hi ?_)
    rw [getD_in hi, wrap_succ (by omega)]
    exact tb (laws_szByteS.sp (by omega) h0 (by omega) (hx _ (List.getElem_mem hi))) fun a ha => tif (fun _ => tl hq) fun h => ih a (by omega) (ha.2 (by omega))
theorem laws_szWriteS.sp {d : Nat} (hd : 3 ≤ d) {l : List (Int × List Int)} {left : Int} (h0 : 0 ≤ left) (h1 : left ≤ 1048576) (hl : l.length ≤ 140737488351232) (hx : ∀ x ∈ l, x.2.length ≤ 140737488351232) :
    Tells (laws_szWriteS.f d (l, left)) fun r => r ≤ left ∧ (0 ≤ r → (l.length : Int) + wSum (fun x => x.2.length) l ≤ left - r) := by
  obtain ⟨d, rfl, _⟩ := dep hd
  rw [laws_szWriteS.t_eq]
  dsimp only [laws_szWriteS.m]
  rw [wrap_id (by omega) (by omega)]
  refine tif (fun h => tl ⟨by omega, by omega⟩) fun h => ?_
  refine (loopSz (w := fun x : Int × List Int => x.2.length) (laws_szWriteS.S0 d) (by omega) hl (fun L st => ?_) fun L st i Q hi h0 h1 hq ih => ?_).mono fun r hr => ⟨by omega, fun h => by have := hr.2 h; omega⟩
  · dsimp only [laws_szWriteS.S0, laws_szWriteS.s0]
    exact tn (by omega) (tl rfl)
  · dsimp only [laws_szWriteS.S0, laws_szWriteS.s0]
    refine tp (by omega) (ti hi ?_)
    rw [getD_in hi, wrap_succ (by omega)]
    obtain ⟨d, rfl, _⟩ := dep (show 1 + 1 ≤ d by omega)
    rw [laws_szWrite.t_eq]
    dsimp only [laws_szWrite.m]
    refine tb (P := fun a => a ≤ st ∧ (0 ≤ a → (l[i].2.length : Int) ≤ st - a)) ?_ fun a ha => tif (fun _ => tl hq) fun h => ih a (by omega) (ha.2 (by omega))
    exact tb (laws_szByteS.sp (by omega) h0 (by omega) (hx _ (List.getElem_mem hi))) fun a ha => tif (fun _ => tl ⟨by omega, fun h => by omega⟩) fun h => tl ha
def dkOk (x : Dk) : Prop := okV (.row (.one (.row (.one (.int .u8))))) x.1 ∧ okV (.row (.cons (.int .i64) (.one (.row (.one (.int .u8)))))) x.2.1 ∧ okV (.row (.cons (.int .i64) (.cons (.int .i64) (.one (.int .i64))))) x.2.2.2.1
theorem okRow_len {cs : SS} {l : List cs.T} (h : okV (.row cs) l) : l.length ≤ 140737488351232 := Nat.le_trans (Nat.le_mul_of_pos_right _ (SS.size_pos cs)) h.1
theorem dkOk.fit {x : Dk} (h : dkOk x) : dkFit x :=
  ⟨⟨okRow_len h.1, fun y hy => okRow_len (h.1.2 y hy)⟩, ⟨okRow_len (cs := .cons (.int .i64) (.one (.row (.one (.int .u8))))) h.2.1, fun y hy => okRow_len (h.2.1.2 y hy).2⟩, okRow_len (cs := .cons (.int .i64) (.cons (.int .i64) (.one (.int .i64)))) h.2.2⟩
/-- no more than a million -/
def dkSm (x : Dk) : Prop := (x.1.length ≤ 1048576 ∧ ∀ y ∈ x.1, y.length ≤ 1048576) ∧ (x.2.1.length ≤ 1048576 ∧ ∀ y ∈ x.2.1, y.2.length ≤ 1048576) ∧ x.2.2.2.1.length ≤ 1048576 ∧ dkW x ≤ 10000000
theorem sum_three (l : List (Int × Int × Int)) : wSum (fun _ : Int × Int × Int => 3) l = 3 * l.length := by
  induction l with
  | nil => rfl
  | cons y l ih => rw [wSum_cons, ih, List.length_cons]; omega
theorem sum_ww (l : List (Int × List Int)) : wSum ww l = l.length + wSum (fun x => x.2.length) l := by
  induction l with
  | nil => rfl
  | cons y l ih => rw [wSum_cons, wSum_cons, ih, List.length_cons]; unfold ww; omega
theorem dkSm.fit {x : Dk} (h : dkSm x) : dkFit x := ⟨⟨by have := h.1.1; omega, fun y hy => by have := h.1.2 y hy; omega⟩, ⟨by have := h.2.1.1; omega, fun y hy => by have := h.2.1.2 y hy; omega⟩, by have := h.2.2.1; omega⟩
theorem laws_szDisk.sp {d : Nat} (hd : 4 ≤ d) {x : Dk} (hf : dkFit x) : Tells (laws_szDisk.f d (x.1, x.2.1, x.2.2.1, x.2.2.2.1, x.2.2.2.2, 1048576)) fun r => 0 ≤ r → dkSm x := by
  obtain ⟨d, rfl, _⟩ := dep hd
  rw [laws_szDisk.t_eq]
  dsimp only [laws_szDisk.m]
  refine tb (laws_szByteSS.sp (by omega) (by omega) (by omega) hf.1.1 hf.1.2) fun a ha => tif (fun _ => tl fun h => by omega) fun c => ?_
  refine tb (laws_szWriteS.sp (by omega) (by omega) (by omega) hf.2.1.1 hf.2.1.2) fun b hb => tif (fun _ => tl fun h => by omega) fun c2 => ?_
  refine tb (laws_szFaultS.sp (by omega) (by omega) (by omega) hf.2.2) fun e he => tif (fun _ => tl fun h => by omega) fun c3 => tl fun _ => ?_
  have h1 := ha.2 (by omega)
  have h2 := hb.2 (by omega)
  have h3 := he.2 (by omega)
  refine ⟨⟨by omega, fun y hy => by have := mem_wSum (w := List.length) hy; omega⟩, ⟨by omega, fun y hy => by have h : y.2.length ≤ wSum (fun x : Int × List Int => x.2.length) x.2.1 := mem_wSum (w := fun x : Int × List Int => x.2.length) hy; omega⟩, by omega, ?_⟩
  unfold dkW
  rw [sum_three, sum_ww]
  omega
theorem laws_toByteS.sp {d : Nat} (hd : 1 ≤ d) {l : List Int} (hl : l.length ≤ 1048576) : laws_toByteS.f d l = some l := by
  obtain ⟨d, rfl, _⟩ := dep hd
  rw [laws_toByteS.t_eq]
  dsimp only [laws_toByteS.m]
  refine Tells.eq (tt (by simp; omega) ?_)
  have := loopFill (laws_toByteS.S0 d) l id (List.replicate (Int.toNat (l.length : Int)) (0 : Int)) (by simp) (by omega) (fun L st h => ?_) fun L st i Q hi h ih => ?_
  · simpa using this
  · dsimp only [laws_toByteS.S0, laws_toByteS.s0]
    exact tn (by omega) (tl rfl)
  · dsimp only [laws_toByteS.S0, laws_toByteS.s0]
    refine tp (by omega) (ti hi (ti (by omega) ?_))
    rw [getD_in hi, wrap_succ (by omega)]
    exact ih
theorem laws_toByteSS.sp {d : Nat} (hd : 2 ≤ d) {l : List (List Int)} (hl : l.length ≤ 1048576) (hx : ∀ x ∈ l, x.length ≤ 1048576) : laws_toByteSS.f d l = some l := by
  obtain ⟨d, rfl, _⟩ := dep hd
  rw [laws_toByteSS.t_eq]
  dsimp only [laws_toByteSS.m]
  refine Tells.eq (tt (by simp; omega) ?_)
  have := loopFill (laws_toByteSS.S0 d) l id (List.replicate (Int.toNat (l.length : Int)) ([] : List Int)) (by simp) (by omega) (fun L st h => ?_) fun L st i Q hi h ih => ?_
  · simpa using this
  · dsimp only [laws_toByteSS.S0, laws_toByteSS.s0]
    exact tn (by omega) (tl rfl)
  · dsimp only [laws_toByteSS.S0, laws_toByteSS.s0]
    refine tp (by omega) (ti hi ?_)
    rw [getD_in hi, wrap_succ (by omega)]
    exact tc (laws_toByteS.sp (by omega) (hx _ (List.getElem_mem hi))) (ti (by omega) ih)
theorem laws_toWriteS.sp {d : Nat} (hd : 3 ≤ d) {l : List (Int × List Int)} (hl : l.length ≤ 1048576) (hx : ∀ x ∈ l, x.2.length ≤ 1048576) : laws_toWriteS.f d l = some l := by
  obtain ⟨d, rfl, _⟩ := dep hd
  rw [laws_toWriteS.t_eq]
  dsimp only [laws_toWriteS.m]
  refine Tells.eq (tt (by simp; omega) ?_)
  have := loopFill (laws_toWriteS.S0 d) l id (List.replicate (Int.toNat (l.length : Int)) ((0 : Int), ([] : List Int))) (by simp) (by omega) (fun L st h => ?_) fun L st i Q hi h ih => ?_
  · simpa using this
  · dsimp only [laws_toWriteS.S0, laws_toWriteS.s0]
    exact tn (by omega) (tl rfl)
  · dsimp only [laws_toWriteS.S0, laws_toWriteS.s0]
    refine tp (by omega) (ti hi ?_)
    rw [getD_in hi, wrap_succ (by omega)]
    obtain ⟨d, rfl, _⟩ := dep (show 1 + 1 ≤ d by omega)
    have e : laws_toWrite.f (d + 1) (l[i].1, l[i].2) = some l[i] := by
      rw [laws_toWrite.t_eq]
      dsimp only [laws_toWrite.m]
      rw [laws_toByteS.sp (by omega) (hx _ (List.getElem_mem hi))]; rfl
    refine tc e (ti (by omega) ?_)
    simpa [show i < st.length by omega] using ih
theorem laws_toDisk.sp {d : Nat} (hd : 4 ≤ d) {x : Dk} (h : dkSm x) : laws_toDisk.f d (x.1, x.2.1, x.2.2.1, x.2.2.2.1, x.2.2.2.2) = some x := by
  obtain ⟨d, rfl, _⟩ := dep hd
  rw [laws_toDisk.t_eq]
  dsimp only [laws_toDisk.m]
  exact Tells.eq (tc (laws_toByteSS.sp (by omega) h.1.1 h.1.2) (tc (laws_toWriteS.sp (by omega) h.2.1.1 h.2.1.2) (tc (laws_toFaultS.sp (by omega) h.2.2.1) (tl rfl))))
def lastW (ws : List (Int × List Int)) (n : Int) (z : List Int) : List Int := match ws.reverse.find? (fun w => w.1 == n) with
  | some w => w.2
  | none => z
theorem lastW_snoc {ws : List (Int × List Int)} {i : Nat} (h : i < ws.length) {n : Int} {z : List Int} : lastW (ws.take (i + 1)) n z = if ws[i].1 = n then ws[i].2 else lastW (ws.take i) n z := by
  unfold lastW
  rw [List.take_add_one, List.getElem?_eq_getElem h, Option.toList_some, List.reverse_append, List.reverse_singleton, List.singleton_append, List.find?_cons]
  by_cases hn : ws[i].1 = n
  · rw [if_pos hn, show (ws[i].1 == n) = true by simpa using hn]
  · rw [if_neg hn, show (ws[i].1 == n) = false by simpa using hn]
def readM (x : Dk) (n : Int) : List Int × Bool := if inB n 0 ((x.1.length : Int) - 1) = true then (lastW x.2.1 n (x.1.getD n.toNat []), true) else ([], false)
theorem lastW_mem {ws : List (Int × List Int)} {n : Int} {z : List Int} {P : List Int → Prop} (hz : P z) (hw : ∀ w ∈ ws, P w.2) : P (lastW ws n z) := by
  unfold lastW
  split
  · rename_i w h; exact hw w (List.mem_reverse.1 (List.mem_of_find?_eq_some h))
  · exact hz
theorem readM_fit {x : Dk} {n : Int} {k : Nat} (h : (∀ y ∈ x.1, y.length ≤ k) ∧ ∀ y ∈ x.2.1, y.2.length ≤ k) : (readM x n).1.length ≤ k := by
  unfold readM
  split
  · rename_i hn
    have := inB_iff.1 hn
    have hi : n.toNat < x.1.length := by omega
    refine lastW_mem (P := fun l => l.length ≤ k) ?_ h.2
    rw [List.getD_eq_getElem?_getD, List.getElem?_eq_getElem hi]
    exact h.1 _ (List.getElem_mem hi)
  · simp
theorem impl_copyBytes.sp {d : Nat} (hd : 1 ≤ d) {l : List Int} (hl : l.length ≤ 140737488351232) : impl_copyBytes.f d l = some l := by
  obtain ⟨d, rfl, _⟩ := dep hd
  rw [impl_copyBytes.t_eq]
  dsimp only [impl_copyBytes.m]
  exact Tells.eq (tp (by simp only [List.length_nil, Nat.zero_add]; omega) (tl rfl))
theorem spec_ReadSec.sp {d : Nat} (hd : 2 ≤ d) {x : Dk} (hf : dkFit x) (n : Int) : spec_ReadSec.f d (x.1, x.2.1, x.2.2.1, x.2.2.2.1, x.2.2.2.2, n) = some (readM x n) := by
  obtain ⟨d, rfl, _⟩ := dep hd
  rw [spec_ReadSec.t_eq]
  dsimp only [spec_ReadSec.m]
  have hl1 := hf.1.1
  have hl2 := hf.2.1.1
  rw [wrap_id (by omega) (by omega), wrap_id (by omega) (by omega)]
  refine Tells.eq (tc (spec_l1In.sp (by omega) _ _ _) (tbif (fun c => tl (by simp at c; simp [readM, c])) fun c => ?_))
  simp only [Bool.not_eq_false'] at c
  have hn := inB_iff.1 c
  have e : readM x n = (lastW (x.2.1.take x.2.1.length) n (x.1.getD n.toNat []), true) := by unfold readM; rw [if_pos c, List.take_length]
  rw [e]
  have hi : n.toNat < x.1.length := by omega
  have hz : n = ((n.toNat : Nat) : Int) := by omega
  refine loopDown (spec_ReadSec.S0 d) x.2.1.length (fun i => (n, i, x.1, x.2.1, x.2.2.1, x.2.2.2.1, x.2.2.2.2)) (fun i r => r = (lastW (x.2.1.take i) n (x.1.getD n.toNat []), true)) (by omega) (fun L => ?_) fun L i hi ih => ?_
  · dsimp only [spec_ReadSec.S0, spec_ReadSec.s0]
    have hb := hf.1.2 _ (List.getElem_mem hi)
    refine tn (by omega) (tt (by simp; omega) (tp ?_ (tl rfl)))
    rw [List.getD_eq_getElem?_getD, List.getElem?_eq_getElem hi]
    simp only [List.length_nil, Nat.zero_add, Option.getD_some]; omega
  · dsimp only [spec_ReadSec.S0, spec_ReadSec.s0]
    have hb := hf.2.1.2 _ (List.getElem_mem hi)
    rw [lastW_snoc hi, getD_in hi, wrap_id (by omega) (by omega)]
    refine tp (by omega) (ti hi (tbif (fun c => ti hi (tp (by simp only [List.length_nil, Nat.zero_add]; omega) (tl ?_))) fun c => ?_))
    · rw [if_pos (by simpa using c)]; rfl
    · rw [if_neg (by simpa using c)]; exact ih
theorem impl_ReadSec.sp {d : Nat} (hd : 2 ≤ d) {x : Dk} (hf : dkFit x) (n : Int) : impl_ReadSec.f d (x.1, x.2.1, x.2.2.1, x.2.2.2.1, x.2.2.2.2, n) = some (readM x n) := by
  obtain ⟨d, rfl, _⟩ := dep hd
  rw [impl_ReadSec.t_eq]
  dsimp only [impl_ReadSec.m]
  have hl1 := hf.1.1
  have hl2 := hf.2.1.1
  rw [wrap_id (by omega) (by omega), wrap_id (by omega) (by omega)]
  refine Tells.eq (tc (impl_in.sp (by omega) _ _ _) (tbif (fun c => tl (by simp at c; simp [readM, c])) fun c => ?_))
  simp only [Bool.not_eq_false'] at c
  have hn := inB_iff.1 c
  have e : readM x n = (lastW (x.2.1.take x.2.1.length) n (x.1.getD n.toNat []), true) := by unfold readM; rw [if_pos c, List.take_length]
  rw [e]
  have hi : n.toNat < x.1.length := by omega
  refine loopDown (impl_ReadSec.S0 d) x.2.1.length (fun i => (n, i, x.1, x.2.1, x.2.2.1, x.2.2.2.1, x.2.2.2.2)) (fun i r => r = (lastW (x.2.1.take i) n (x.1.getD n.toNat []), true)) (by omega) (fun L => ?_) fun L i hi ih => ?_
  · dsimp only [impl_ReadSec.S0, impl_ReadSec.s0]
    have hb := hf.1.2 _ (List.getElem_mem hi)
    refine tn (by omega) (tt (by simp; omega) (tc (impl_copyBytes.sp (by omega) ?_) (tl rfl)))
    rw [List.getD_eq_getElem?_getD, List.getElem?_eq_getElem hi]
    exact hb
  · dsimp only [impl_ReadSec.S0, impl_ReadSec.s0]
    rw [lastW_snoc hi, getD_in hi, wrap_id (by omega) (by omega)]
    refine tp (by omega) (ti hi (tbif (fun c => ti hi (tc (impl_copyBytes.sp (by omega) (hf.2.1.2 _ (List.getElem_mem hi))) (tl ?_))) fun c => ?_))
    · rw [if_pos (by simpa using c)]
    · rw [if_neg (by simpa using c)]; exact ih
theorem laws_markByteS.held {d d2 : Nat} (hd : 1 ≤ d) (hd2 : 1 ≤ d2) {l : List Int} {n : Int} (h0 : 0 ≤ n) (hl : l.length ≤ 140737488351232) (hn : n + l.length ≤ 4611686018427387904) :
    Tells (laws_markByteS.f d (l, n)) (fun r => 0 ≤ r.1 ∧ laws_heldByteS.f d2 (r.2, n) = some r.1) :=
  (laws_markByteS.sp hd h0 hl hn).mono fun r hr => ⟨by omega, by rw [laws_heldByteS.sp hd2 h0 (by rw [hr.2.2]; exact hl) (by rw [hr.2.2]; exact hn) hr.2.1, hr.1, hr.2.2]⟩
theorem laws_FnExactReadSec.pure {d : Nat} (hd : 5 ≤ d) {ss : List (List Int)} {ws : List (Int × List Int)} {p : Int} {fs : List (Int × Int × Int)} {on : Bool} {n : Int} (h1 : okV (.row (.one (.row (.one (.int .u8))))) ss) (h2 : okV (.row (.cons (.int .i64) (.one (.row (.one (.int .u8)))))) ws) (_ : okV (.int .i64) p)
    (h3 : okV (.row (.cons (.int .i64) (.cons (.int .i64) (.one (.int .i64))))) fs) (_ : okV .bool on) (_ : okV (.int .i64) n) : laws_FnExactReadSec.f d (ss, ws, p, fs, on, n) = some true := by
  obtain ⟨d, rfl, _⟩ := dep hd
  rw [laws_FnExactReadSec.t_eq]
  dsimp only [laws_FnExactReadSec.m]
  have ok : dkOk (ss, ws, p, fs, on) := ⟨h1, h2, h3⟩
  refine Tells.eq (tb (laws_szDisk.sp (by omega) ok.fit) fun r hr => tif (fun _ => tl rfl) fun h => ?_)
  have sm := hr (by omega)
  have to := laws_toDisk.sp (d := d) (by omega) sm
  have fit := readM_fit (n := n) ⟨sm.1.2, sm.2.1.2⟩
  have eq := laws_eqByteS.self (d := d) (by omega) (l := (readM (ss, ws, p, fs, on) n).1) (by omega)
  have rs := spec_ReadSec.sp (d := d) (by omega) ok.fit n
  have ri := impl_ReadSec.sp (d := d) (by omega) ok.fit n
  refine tc to (tc rs (tc to (tc ri (tc eq (tf rfl (tf (by simp) ?_))))))
  refine tc to (tc (laws_eqDisk.self (by omega) ok.fit) (tf rfl ?_))
  refine tb (laws_markDisk.nn (d := d) (by omega) (by omega) ok.fit (by have := sm.2.2.2; omega)) fun r9 h9 => tn (by omega) ?_
  refine tc eq (tf rfl (tf (by simp) ?_))
  refine tb (laws_markByteS.held (d := d) (d2 := d) (by omega) (by omega) (by omega) (by omega) (by omega)) fun r11 h11 => ?_
  refine tc h11.2 (tn (by omega) (tf (by simp) ?_))
  refine tc to (tc ri (tc eq (tf rfl (tf (by simp) ?_))))
  exact tc h11.2 (tn (by omega) (tf (by simp) (tl rfl)))
def onM (x : Dk) : Dk := (x.1, x.2.1, x.2.2.1, x.2.2.2.1, false)
end Go.PV.T
