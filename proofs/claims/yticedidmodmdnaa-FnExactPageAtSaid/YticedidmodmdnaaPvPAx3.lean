/- Functions of the program by their own lists and numbers. No condition beyond those in each statement. -/
import Derived.Test.YticedidmodmdnaaPvPAx2
set_option linter.unusedVariables false
namespace Go.PV.T
open Go.Proofs
theorem laws_szFaultS.sp {d : Nat} (hd : 1 ≤ d) {l : List (Int × Int × Int)} {left : Int} (h0 : 0 ≤ left) (h1 : left ≤ 1048576) (hl : l.length ≤ 140737488351232) :
    Tells (laws_szFaultS.f d (l, left)) fun r => r ≤ left ∧ (0 ≤ r → (l.length : Int) ≤ left - r) := by
  obtain ⟨d, rfl, hd⟩ := dep hd
  rw [laws_szFaultS.t_eq]
  dsimp only [laws_szFaultS.m]
  rw [wrap_id (by omega) (by omega)]
  exact tif (fun h => tl ⟨by omega, by omega⟩) fun h => tl ⟨by omega, by omega⟩
theorem laws_toFault.sp {d : Nat} (hd : 1 ≤ d) (a : Int × Int × Int) : laws_toFault.f d (a.1, a.2.1, a.2.2) = some a := by
  obtain ⟨d, rfl, hd⟩ := dep hd
  rw [laws_toFault.t_eq]
  rfl
/-- a row of the same length that is filled element by element -/
theorem fill_step {α : Type} {l s : List α} {i : Nat} (hl : s.length = l.length) (ht : s.take i = l.take i) (hi : i < l.length) : (s.set i l[i]).take (i + 1) = l.take (i + 1) := by
  rw [List.take_add_one, List.take_add_one, List.take_set_of_le (Nat.le_refl i), ht, List.getElem?_set_self (by omega)]
  simp [hi]
theorem laws_toFaultS.sp {d : Nat} (hd : 2 ≤ d) {l : List (Int × Int × Int)} (hl : l.length ≤ 1048576) : laws_toFaultS.f d l = some l := by
  obtain ⟨d, rfl, hd⟩ := dep hd
  rw [laws_toFaultS.t_eq]
  dsimp only [laws_toFaultS.m]
  refine Tells.eq (tt (by simp; omega) ?_)
  refine loop0 (laws_toFaultS.S0 d) l.length (fun st i => (l, i, st)) (fun st i => st.length = l.length ∧ st.take i = l.take i) (fun _ _ r => r = l) _ (by omega) (by simp) ?_ ?_
  · rintro L st ⟨h1, h2⟩
    dsimp only [laws_toFaultS.S0, laws_toFaultS.s0]
    refine tn (by omega) (tl ?_)
    rwa [← h1, List.take_length, h1, List.take_length] at h2
  · rintro L st i ⟨h1, h2⟩ hi ih
    dsimp only [laws_toFaultS.S0, laws_toFaultS.s0]
    refine tp (by omega) (ti hi ?_)
    rw [getD_in hi]
    refine tc (laws_toFault.sp (by omega) _) (ti (by omega) ?_)
    rw [wrap_succ (by omega)]
    have hi' : i < st.length := by omega
    have := ih (st.set i l[i]) ⟨by simp [h1], fill_step h1 h2 hi⟩
    simpa [hi'] using this
theorem in_def (a lo hi : Int) : (bif decide (a ≥ lo) then some (decide (a ≤ hi)) else some false) = some (inB a lo hi) := by
  by_cases h : lo ≤ a <;> simp [inB, h]
theorem impl_in.sp {d : Nat} (hd : 1 ≤ d) (a lo hi : Int) : impl_in.f d (a, lo, hi) = some (inB a lo hi) := by
  obtain ⟨d, rfl, hd⟩ := dep hd
  rw [impl_in.t_eq]
  exact in_def a lo hi
theorem spec_l1In.sp {d : Nat} (hd : 1 ≤ d) (a lo hi : Int) : spec_l1In.f d (a, lo, hi) = some (inB a lo hi) := by
  obtain ⟨d, rfl, hd⟩ := dep hd
  rw [spec_l1In.t_eq]
  exact in_def a lo hi
def fOk (x : Int × Int × Int) : Bool := inB x.1 0 100000 && (inB x.2.1 0 1048575 && inB x.2.2 0 256)
def faultsM : Option (Int × Int × Int) → List (Int × Int × Int) → Bool
  | _, [] => true
  | p, x :: r => fOk x && (match p with
    | none => faultsM (some x) r
    | some y => !decide (y.1 ≥ x.1) && faultsM (some x) r)
def before (fs : List (Int × Int × Int)) (i : Nat) : Option (Int × Int × Int) := if i = 0 then none else fs[i - 1]?
theorem before_succ {fs : List (Int × Int × Int)} {i : Nat} (h : i < fs.length) : before fs (i + 1) = some fs[i] := by
  unfold before
  rw [if_neg (by omega), show i + 1 - 1 = i by omega]
  simp [h]
/-- what both rounds over the faults tell -/
theorem faults_round {fs : List (Int × Int × Int)} {i : Nat} {k : Bool} {x : Option Bool} (hi : i < fs.length) (hl : fs.length ≤ 1048576) {c : Int × Int × Int → Option Bool} (hc : ∀ a lo hi, c (a, lo, hi) = some (inB a lo hi))
    (ih : Tells x (· = (faultsM (before fs (i + 1)) (fs.drop (i + 1)) && k))) (b1 b2 b3 : Bool) (h1 : b1 = true) (h2 : b2 = true) (h3 : b3 = true) :
    Tells (Option.bind (c (fs[i].1, 0, 100000)) fun r1 => bif !r1 then some false else bif b1 then
      Option.bind (c (fs[i].2.1, 0, 1048575)) fun r2 => bif !r2 then some false else bif b2 then
        Option.bind (c (fs[i].2.2, 0, 256)) fun r3 => bif !r3 then some false else
          bif decide ((i : Int) > 0) then
            bif decide (0 ≤ IntKind.wrap IntKind.i64 ((i : Int) - 1)) && decide (IntKind.wrap IntKind.i64 ((i : Int) - 1) < (fs.length : Int)) then
              bif b3 then
                bif decide ((List.getD fs (Int.toNat (IntKind.wrap IntKind.i64 ((i : Int) - 1))) ((0 : Int), (0 : Int), (0 : Int))).1 ≥ fs[i].1) then some false else x
              else none
            else none
          else x
        else none
      else none) (· = (faultsM (before fs i) (fs.drop i) && k)) := by
  subst h1 h2 h3
  rw [drop_at hi, before_succ hi] at *
  simp only [faultsM, fOk]
  refine tc (hc _ _ _) (tbif (fun h => tl (by simp at h; simp [h])) fun h => ?_)
  refine tc (hc _ _ _) (tbif (fun h' => tl (by simp at h'; simp [h'])) fun h' => ?_)
  refine tc (hc _ _ _) (tbif (fun h'' => tl (by simp at h''; simp [h''])) fun h'' => ?_)
  simp only [Bool.not_eq_false'] at h h' h''
  rw [h, h', h'']
  by_cases h0 : i = 0
  · subst h0
    refine tn (by omega) ?_
    simpa [before] using ih
  · have hb : before fs i = some fs[i - 1] := by unfold before; rw [if_neg h0]; simp
    have e : IntKind.wrap IntKind.i64 ((i : Int) - 1) = ((i - 1 : Nat) : Int) := by rw [wrap_id (by omega) (by omega)]; omega
    rw [hb, e]
    refine tp (by omega) (ti (by omega) (tt rfl ?_))
    rw [getD_in (by omega)]
    refine tif (fun c => tl ?_) fun c => ?_
    · simp only [decide_eq_true c]; simp
    · simp only [decide_eq_false c]; simpa using ih
def faultsOkM (fs : List (Int × Int × Int)) : Bool := faultsM none fs && decide ((fs.length : Int) ≤ 20)
def secOk (x : List Int) : Bool := decide ((x.length : Int) ≤ 256)
def wrOk (n : Int) (w : Int × List Int) : Bool := inB w.1 0 (n - 1) && decide ((w.2.length : Int) ≤ 256)
abbrev Dk := (List (List Int)) × (List (Int × (List Int))) × Int × (List (Int × Int × Int)) × Bool
def diskOkM (ss : List (List Int)) (ws : List (Int × List Int)) (p : Int) (fs : List (Int × Int × Int)) (on : Bool) : Bool :=
  ss.all secOk && ws.all (wrOk ss.length) && inB ss.length 4 48 && decide ((ws.length : Int) ≤ 60) && inB p 0 100000 && faultsOkM fs && (!on || decide (ws.length = 0))
/-- a test of each element -/
theorem loopAll {A β : Type} (s : (A → Option Bool) → A → Option Bool) (l : List β) (mk : Int → A) (p : β → Bool) (e : Bool) (hn : l.length ≤ 4611686018427387904)
    (base : ∀ L, Tells (s L (mk (l.length : Int))) (· = e))
    (step : ∀ L i (hi : i < l.length), (∀ e', Tells (L (mk ((i + 1 : Nat) : Int))) (· = e') → Tells (s L (mk (i : Int))) (· = (p l[i] && e')))) :
    Tells (iter s rnds (mk (0 : Int))) (· = (l.all p && e)) := by
  have := loopE s l.length mk (fun i r => r = ((l.drop i).all p && e)) hn (fun L => (base L).mono fun r h => by simp [h]) fun L i hi ih => by
    rw [drop_at hi, List.all_cons, Bool.and_assoc]
    exact step L i hi _ ih
  simpa using this
theorem laws_eqByteS.self {d : Nat} (hd : 1 ≤ d) {l : List Int} (hl : l.length ≤ 140737488351232) : laws_eqByteS.f d (l, l) = some true := by
  obtain ⟨d, rfl, _⟩ := dep hd
  rw [laws_eqByteS.t_eq]
  refine Tells.eq ?_
  dsimp only [laws_eqByteS.m]
  refine tf (by simp) ?_
  refine loopE (laws_eqByteS.S0 d) l.length (fun i => (l, l, i)) (fun _ r => r = true) (by omega) (fun L => ?_) fun L i hi ih => ?_
  · dsimp only [laws_eqByteS.S0, laws_eqByteS.s0]
    exact tn (by omega) (tl rfl)
  · dsimp only [laws_eqByteS.S0, laws_eqByteS.s0]
    refine tp (by omega) (ti hi (ti hi (tf (by simp) ?_)))
    rwa [wrap_succ (by omega)]
theorem laws_eqByteSS.self {d : Nat} (hd : 2 ≤ d) {l : List (List Int)} (hl : l.length ≤ 140737488351232) (hx : ∀ x ∈ l, x.length ≤ 140737488351232) : laws_eqByteSS.f d (l, l) = some true := by
  obtain ⟨d, rfl, _⟩ := dep hd
  rw [laws_eqByteSS.t_eq]
  refine Tells.eq ?_
  dsimp only [laws_eqByteSS.m]
  refine tf (by simp) ?_
  refine loopE (laws_eqByteSS.S0 d) l.length (fun i => (l, l, i)) (fun _ r => r = true) (by omega) (fun L => ?_) fun L i hi ih => ?_
  · dsimp only [laws_eqByteSS.S0, laws_eqByteSS.s0]
    exact tn (by omega) (tl rfl)
  · dsimp only [laws_eqByteSS.S0, laws_eqByteSS.s0]
    refine tp (by omega) (ti hi (ti hi ?_))
    rw [getD_in hi, wrap_succ (by omega)]
    exact tc (laws_eqByteS.self (by omega) (hx _ (List.getElem_mem hi))) (tf rfl ih)
theorem laws_eqFault.self {d : Nat} (hd : 1 ≤ d) (a : Int × Int × Int) : laws_eqFault.f d (a.1, a.2.1, a.2.2, a.1, a.2.1, a.2.2) = some true := by
  obtain ⟨d, rfl, _⟩ := dep hd
  rw [laws_eqFault.t_eq]
  simp [laws_eqFault.m]
theorem laws_eqFaultS.self {d : Nat} (hd : 2 ≤ d) {l : List (Int × Int × Int)} (hl : l.length ≤ 140737488351232) : laws_eqFaultS.f d (l, l) = some true := by
  obtain ⟨d, rfl, _⟩ := dep hd
  rw [laws_eqFaultS.t_eq]
  refine Tells.eq ?_
  dsimp only [laws_eqFaultS.m]
  refine tf (by simp) ?_
  refine loopE (laws_eqFaultS.S0 d) l.length (fun i => (l, l, i)) (fun _ r => r = true) (by omega) (fun L => ?_) fun L i hi ih => ?_
  · dsimp only [laws_eqFaultS.S0, laws_eqFaultS.s0]
    exact tn (by omega) (tl rfl)
  · dsimp only [laws_eqFaultS.S0, laws_eqFaultS.s0]
    refine tp (by omega) (ti hi (ti hi ?_))
    rw [wrap_succ (by omega)]
    exact tc (laws_eqFault.self (by omega) _) (tf rfl ih)
theorem laws_eqWrite.self {d : Nat} (hd : 2 ≤ d) {a : Int × List Int} (hl : a.2.length ≤ 140737488351232) : laws_eqWrite.f d (a.1, a.2, a.1, a.2) = some true := by
  obtain ⟨d, rfl, _⟩ := dep hd
  rw [laws_eqWrite.t_eq]
  refine Tells.eq ?_
  dsimp only [laws_eqWrite.m]
  exact tf (by simp) (tc (laws_eqByteS.self (by omega) hl) (tf rfl (tl rfl)))
theorem laws_eqWriteS.self {d : Nat} (hd : 3 ≤ d) {l : List (Int × List Int)} (hl : l.length ≤ 140737488351232) (hx : ∀ x ∈ l, x.2.length ≤ 140737488351232) : laws_eqWriteS.f d (l, l) = some true := by
  obtain ⟨d, rfl, _⟩ := dep hd
  rw [laws_eqWriteS.t_eq]
  refine Tells.eq ?_
  dsimp only [laws_eqWriteS.m]
  refine tf (by simp) ?_
  refine loopE (laws_eqWriteS.S0 d) l.length (fun i => (l, l, i)) (fun _ r => r = true) (by omega) (fun L => ?_) fun L i hi ih => ?_
  · dsimp only [laws_eqWriteS.S0, laws_eqWriteS.s0]
    exact tn (by omega) (tl rfl)
  · dsimp only [laws_eqWriteS.S0, laws_eqWriteS.s0]
    refine tp (by omega) (ti hi (ti hi ?_))
    rw [getD_in hi, wrap_succ (by omega)]
    exact tc (laws_eqWrite.self (by omega) (hx _ (List.getElem_mem hi))) (tf rfl ih)
/-- a disk's rows are no longer than memory holds -/
def dkFit (x : Dk) : Prop := (x.1.length ≤ 140737488351232 ∧ ∀ y ∈ x.1, y.length ≤ 140737488351232) ∧ (x.2.1.length ≤ 140737488351232 ∧ ∀ y ∈ x.2.1, y.2.length ≤ 140737488351232) ∧ x.2.2.2.1.length ≤ 140737488351232
theorem laws_eqDisk.self {d : Nat} (hd : 4 ≤ d) {x : Dk} (h : dkFit x) : laws_eqDisk.f d (x.1, x.2.1, x.2.2.1, x.2.2.2.1, x.2.2.2.2, x.1, x.2.1, x.2.2.1, x.2.2.2.1, x.2.2.2.2) = some true := by
  obtain ⟨d, rfl, _⟩ := dep hd
  rw [laws_eqDisk.t_eq]
  refine Tells.eq ?_
  dsimp only [laws_eqDisk.m]
  refine tc (laws_eqByteSS.self (by omega) h.1.1 h.1.2) (tf rfl ?_)
  refine tc (laws_eqWriteS.self (by omega) h.2.1.1 h.2.1.2) (tf rfl (tf (by simp) ?_))
  exact tc (laws_eqFaultS.self (by omega) h.2.2) (tf rfl (tf (by simp) (tl rfl)))
def Mb (n : Int) (x : Int) : Prop := x = IntKind.wrap IntKind.u8 n
abbrev MkB := MkL (fun _ : Int => 1) Mb
theorem sum_one {α : Type} (l : List α) : wSum (fun _ => 1) l = l.length := by induction l with
  | nil => rfl
  | cons a l ih => rw [wSum_cons, ih, List.length_cons]; omega
def Mf (n : Int) (x : Int × Int × Int) : Prop := x = (n, n + 1, n + 2)
abbrev MkF := MkL (fun _ : Int × Int × Int => 3) Mf
abbrev MkBB := MkL (fun x : List Int => x.length) MkB
def Mw (n : Int) (x : Int × List Int) : Prop := x.1 = n ∧ MkB (n + 1) x.2
def ww (x : Int × List Int) : Nat := x.2.length + 1
abbrev MkW := MkL ww Mw
theorem laws_markByteS.sp {d : Nat} (hd : 1 ≤ d) {l : List Int} {n : Int} (h0 : 0 ≤ n) (hl : l.length ≤ 140737488351232) (hn : n + l.length ≤ 4611686018427387904) :
    Tells (laws_markByteS.f d (l, n)) (fun r => r.1 = n + l.length ∧ MkB n r.2 ∧ r.2.length = l.length) := by
  obtain ⟨d, rfl, _⟩ := dep hd
  rw [laws_markByteS.t_eq]
  dsimp only [laws_markByteS.m]
  refine (loopMark (w := fun _ => 1) (M := Mb) (laws_markByteS.S0 d) h0 (by rw [sum_one]; exact hn) hl (fun L n st h => ?_) fun L n st i Q hi h hwx h0 hn ih => ?_).mono fun r hr => ?_
  · dsimp only [laws_markByteS.S0, laws_markByteS.s0]
    exact tn (by omega) (tl rfl)
  · dsimp only [laws_markByteS.S0, laws_markByteS.s0]
    refine tp (by omega) (ti hi ?_)
    rw [wrap_succ (by omega), wrapn (by omega) (by omega)]
    exact ih _ rfl rfl
  · rw [sum_one] at hr
    exact ⟨hr.1, hr.2.1, by simpa using congrArg List.length hr.2.2⟩
theorem laws_heldByteS.sp {d : Nat} (hd : 1 ≤ d) {l : List Int} {n : Int} (h0 : 0 ≤ n) (hl : l.length ≤ 140737488351232) (hn : n + l.length ≤ 4611686018427387904) (hm : MkB n l) : laws_heldByteS.f d (l, n) = some (n + l.length) := by
  obtain ⟨d, rfl, _⟩ := dep hd
  rw [laws_heldByteS.t_eq]
  dsimp only [laws_heldByteS.m]
  refine Tells.eq ?_
  have := loopHeld (w := fun _ => 1) (M := Mb) (laws_heldByteS.S0 d) h0 (by rw [sum_one]; exact hn) hl hm (fun L n => ?_) fun L n i Q hi h0 hn hM ih => ?_
  · rw [sum_one] at this; exact this
  · dsimp only [laws_heldByteS.S0, laws_heldByteS.s0]
    exact tn (by omega) (tl rfl)
  · dsimp only [laws_heldByteS.S0, laws_heldByteS.s0]
    refine tp (by omega) (ti hi ?_)
    rw [getD_in hi, wrap_succ (by omega), wrapn (by omega) (by omega), hM]
    exact tf (by simp) ih
theorem laws_markFaultS.sp {d : Nat} (hd : 1 ≤ d) {l : List (Int × Int × Int)} {n : Int} (h0 : 0 ≤ n) (hl : l.length ≤ 140737488351232) (hn : n + wSum (fun _ : Int × Int × Int => 3) l ≤ 4611686018427387904) :
    Tells (laws_markFaultS.f d (l, n)) (fun r => r.1 = n + wSum (fun _ : Int × Int × Int => 3) l ∧ MkF n r.2 ∧ r.2.length = l.length) := by
  obtain ⟨d, rfl, _⟩ := dep hd
  rw [laws_markFaultS.t_eq]
  dsimp only [laws_markFaultS.m]
  refine (loopMark (w := fun _ => 3) (M := Mf) (laws_markFaultS.S0 d) h0 hn hl (fun L n st h => ?_) fun L n st i Q hi h hwx h0 hn ih => ?_).mono fun r hr => ⟨hr.1, hr.2.1, by simpa using congrArg List.length hr.2.2⟩
  · dsimp only [laws_markFaultS.S0, laws_markFaultS.s0]
    exact tn (by omega) (tl rfl)
  · dsimp only [laws_markFaultS.S0, laws_markFaultS.s0]
    refine tp (by omega) (ti hi (tt ?_ (tt ?_ ?_)))
    · simp [hi]
    · simp [hi]
    · have := ih (n, n + 1, n + 2) rfl rfl
      rw [wrap_succ (by omega), wrapn (x := n + 1) (by omega) (by omega), show n + 1 + 1 = n + 2 by omega, wrapn (x := n + 2) (by omega) (by omega), show n + 2 + 1 = n + ((3 : Nat) : Int) by omega, wrapn (x := n + ((3 : Nat) : Int)) (by omega) (by omega)]
      simpa [hi] using this
theorem laws_markByteSS.sp {d : Nat} (hd : 2 ≤ d) {l : List (List Int)} {n : Int} (h0 : 0 ≤ n) (hl : l.length ≤ 140737488351232) (hx : ∀ x ∈ l, x.length ≤ 140737488351232) (hn : n + wSum List.length l ≤ 4611686018427387904) :
    Tells (laws_markByteSS.f d (l, n)) (fun r => r.1 = n + wSum List.length l ∧ MkBB n r.2 ∧ r.2.map List.length = l.map List.length) := by
  obtain ⟨d, rfl, _⟩ := dep hd
  rw [laws_markByteSS.t_eq]
  dsimp only [laws_markByteSS.m]
  refine loopMark (w := fun x : List Int => x.length) (M := MkB) (laws_markByteSS.S0 d) h0 hn hl (fun L n st h => ?_) fun L n st i Q hi h hwx h0 hn ih => ?_
  · dsimp only [laws_markByteSS.S0, laws_markByteSS.s0]
    exact tn (by omega) (tl rfl)
  · dsimp only [laws_markByteSS.S0, laws_markByteSS.s0]
    refine tp (by omega) (ti hi ?_)
    rw [getD_in hi, wrap_succ (by omega)]
    obtain ⟨x, hx1, hx2⟩ := hwx
    have := hx x hx1
    refine tb (laws_markByteS.sp (by omega) h0 (by omega) hn) fun a ha => ?_
    rw [ha.1]
    exact ih _ ha.2.2 ha.2.1
theorem laws_markWriteS.sp {d : Nat} (hd : 2 ≤ d) {l : List (Int × List Int)} {n : Int} (h0 : 0 ≤ n) (hl : l.length ≤ 140737488351232) (hn : n + wSum ww l ≤ 4611686018427387904) (hx : ∀ x ∈ l, x.2.length ≤ 140737488351232) :
    Tells (laws_markWriteS.f d (l, n)) (fun r => r.1 = n + wSum ww l ∧ MkW n r.2 ∧ r.2.map ww = l.map ww) := by
  obtain ⟨d, rfl, _⟩ := dep hd
  rw [laws_markWriteS.t_eq]
  dsimp only [laws_markWriteS.m]
  refine loopMark (w := ww) (M := Mw) (laws_markWriteS.S0 d) h0 hn hl (fun L n st h => ?_) fun L n st i Q hi h hwx h0 hn ih => ?_
  · dsimp only [laws_markWriteS.S0, laws_markWriteS.s0]
    exact tn (by omega) (tl rfl)
  · dsimp only [laws_markWriteS.S0, laws_markWriteS.s0]
    refine tp (by omega) (ti hi (tt (by simp [hi]) ?_))
    have e : ∀ z, List.getD (List.set st (Int.toNat (i : Int)) (n, (List.getD st (Int.toNat (i : Int)) ((0 : Int), ([] : List Int))).2)) (Int.toNat (i : Int)) z = (n, st[i].2) := fun z => by simp [hi]
    simp only [e]
    obtain ⟨x, hx1, hx2⟩ := hwx
    have := hx x hx1
    unfold ww at hn hx2
    rw [wrap_succ (by omega), wrapn (by omega) (by omega)]
    refine tb (laws_markByteS.sp (by omega) (by omega) (by omega) (by omega)) fun a ha => ?_
    have := ih (n, a.2) (by simp [ww, ha.2.2]) ⟨rfl, ha.2.1⟩
    rw [ha.1]
    unfold ww at this
    rw [show n + 1 + (st[i].2.length : Int) = n + ((st[i].2.length + 1 : Nat) : Int) by omega]
    simpa [hi] using this
def dkW (x : Dk) : Nat := wSum List.length x.1 + wSum ww x.2.1 + wSum (fun _ : Int × Int × Int => 3) x.2.2.2.1
theorem map_len {α β : Type} {f : α → β} {a b : List α} (h : a.map f = b.map f) : a.length = b.length := by simpa using congrArg List.length h
theorem map_all {α β : Type} {f : α → β} {a b : List α} (h : a.map f = b.map f) {P : β → Prop} (hb : ∀ x ∈ b, P (f x)) : ∀ x ∈ a, P (f x) := fun x hx => by
  have := List.mem_map_of_mem (f := f) hx
  rw [h] at this
  obtain ⟨y, hy, e⟩ := List.mem_map.1 this
  rw [← e]; exact hb y hy
theorem laws_markDisk.nn {d : Nat} (hd : 3 ≤ d) {x : Dk} {n : Int} (h0 : 0 ≤ n) (hf : dkFit x) (hn : n + dkW x ≤ 4611686018427387904) :
    Tells (laws_markDisk.f d (x.1, x.2.1, x.2.2.1, x.2.2.2.1, x.2.2.2.2, n)) (fun r => 0 ≤ r.1) := by
  obtain ⟨d, rfl, _⟩ := dep hd
  rw [laws_markDisk.t_eq]
  dsimp only [laws_markDisk.m]
  unfold dkW at hn
  refine tb (laws_markByteSS.sp (by omega) h0 hf.1.1 hf.1.2 (by omega)) fun a ha => ?_
  refine tb (laws_markWriteS.sp (by omega) (by omega) hf.2.1.1 (by omega) hf.2.1.2) fun b hb => ?_
  exact tb (laws_markFaultS.sp (by omega) (by omega) hf.2.2 (by omega)) fun c hc => tl (by omega)
def noDk : Dk := ([], [], 0, [], false)
def newDk (n : Int) (fs : List (Int × Int × Int)) : Dk := if inB n 4 48 = true ∧ faultsOkM fs = true then (List.replicate n.toNat [], [], 0, fs, false) else noDk
theorem newDk_fit {n : Int} {fs : List (Int × Int × Int)} : dkFit (newDk n fs) ∧ dkW (newDk n fs) ≤ 1000 := by
  unfold newDk
  split
  · rename_i h
    have h1 := inB_iff.1 h.1
    have h2 := h.2
    unfold faultsOkM at h2
    simp only [Bool.and_eq_true, decide_eq_true_eq] at h2
    have hs : ∀ k : Nat, wSum List.length (List.replicate k ([] : List Int)) = 0 := fun k => by simp [wSum]
    have hq : ∀ l : List (Int × Int × Int), wSum (fun _ : Int × Int × Int => 3) l = 3 * l.length := fun l => by
      induction l with
      | nil => rfl
      | cons y l ih => rw [wSum_cons, ih, List.length_cons]; omega
    refine ⟨⟨⟨by simp; omega, fun y hy => by rw [(List.mem_replicate.1 hy).2]; simp⟩, ⟨by simp, fun y hy => by cases hy⟩, by simp only; omega⟩, ?_⟩
    simp only [dkW, hs, hq]
    simp only [wSum, List.map_nil, List.sum_nil]
    omega
  · exact ⟨⟨⟨by simp [noDk], fun y hy => by cases hy⟩, ⟨by simp [noDk], fun y hy => by cases hy⟩, by simp [noDk]⟩, by simp [noDk, dkW, wSum]⟩
theorem laws_szByteS.sp {d : Nat} (hd : 1 ≤ d) {l : List Int} {left : Int} (h0 : 0 ≤ left) (h1 : left ≤ 1048576) (hl : l.length ≤ 140737488351232) :
    Tells (laws_szByteS.f d (l, left)) fun r => r ≤ left ∧ (0 ≤ r → (l.length : Int) ≤ left - r) := by
  obtain ⟨d, rfl, _⟩ := dep hd
  rw [laws_szByteS.t_eq]
  dsimp only [laws_szByteS.m]
  rw [wrap_id (by omega) (by omega)]
  exact tif (fun h => tl ⟨by omega, by omega⟩) fun h => tl ⟨by omega, by omega⟩
theorem laws_szByteSS.sp {d : Nat} (hd : 2 ≤ d) {l : List (List Int)} {left : Int} (h0 : 0 ≤ left) (h1 : left ≤ 1048576) (hl : l.length ≤ 140737488351232) (hx : ∀ x ∈ l, x.length ≤ 140737488351232) :
    Tells (laws_szByteSS.f d (l, left)) fun r => r ≤ left ∧ (0 ≤ r → (l.length : Int) + wSum List.length l ≤ left - r) := by
  obtain ⟨d, rfl, _⟩ := dep hd
  rw [laws_szByteSS.t_eq]
  dsimp only [laws_szByteSS.m]
  rw [wrap_id (by omega) (by omega)]
  refine tif (fun h => tl ⟨by omega, by omega⟩) fun h => ?_
  refine (loopSz (w := List.length) (laws_szByteSS.S0 d) (by omega) hl (fun L st => ?_) fun L st i Q hi h0 h1 hq ih => ?_).mono fun r hr => ⟨by omega, fun h => by have := hr.2 h; omega⟩
  · dsimp only [laws_szByteSS.S0, laws_szByteSS.s0]
    exact tn (by omega) (tl rfl)
  · dsimp only [laws_szByteSS.S0, laws_szByteSS.s0]
    refine tp (by omega) (ti hi ?_)
    rw [getD_in hi, wrap_succ (by omega)]
    exact tb (laws_szByteS.sp (by omega) h0 (by omega) (hx _ (List.getElem_mem hi))) fun a ha => tif (fun _ => tl hq) fun h => ih a (by omega) (ha.2 (by omega))
theorem laws_szWriteS.sp {d : Nat} (hd : 3 ≤ d) {l : List (Int × List Int)} {left : Int} (h0 : 0 ≤ left) (h1 : left ≤ 1048576) (hl : l.length ≤ 140737488351232) (hx : ∀ x ∈ l, x.2.length ≤ 140737488351232) :
    Tells (laws_szWriteS.f d (l, left)) fun r => r ≤ left ∧ (0 ≤ r → (l.length : Int) + wSum (fun x => x.2.length) l ≤ left - r) := by
  obtain ⟨d, rfl, _⟩ := dep hd
  rw [laws_szWriteS.t_eq]
  dsimp only [laws_szWriteS.m]
  rw [wrap_id (by omega) (by omega)]
  refine tif (fun h => tl ⟨by omega, by omega⟩) fun h => ?_
  refine (loopSz (w := fun x : Int × List Int => x.2.length) (laws_szWriteS.S0 d) (by omega) hl (fun L st => ?_) fun L st i Q hi h0 h1 hq ih => ?_).mono fun r hr => ⟨by omega, fun h => by have := hr.2 h; omega⟩
  · dsimp only [laws_szWriteS.S0, laws_szWriteS.s0]
    exact tn (by omega) (tl rfl)
  · dsimp only [laws_szWriteS.S0, laws_szWriteS.s0]
    refine tp (by omega) (ti hi ?_)
    rw [getD_in hi, wrap_succ (by omega)]
    obtain ⟨d, rfl, _⟩ := dep (show 1 + 1 ≤ d by omega)
    rw [laws_szWrite.t_eq]
    dsimp only [laws_szWrite.m]
    refine tb (P := fun a => a ≤ st ∧ (0 ≤ a → (l[i].2.length : Int) ≤ st - a)) ?_ fun a ha => tif (fun _ => tl hq) fun h => ih a (by omega) (ha.2 (by omega))
    exact tb (laws_szByteS.sp (by omega) h0 (by omega) (hx _ (List.getElem_mem hi))) fun a ha => tif (fun _ => tl ⟨by omega, fun h => by omega⟩) fun h => tl ha
def dkOk (x : Dk) : Prop := okV (.row (.one (.row (.one (.int .u8))))) x.1 ∧ okV (.row (.cons (.int .i64) (.one (.row (.one (.int .u8)))))) x.2.1 ∧ okV (.row (.cons (.int .i64) (.cons (.int .i64) (.one (.int .i64))))) x.2.2.2.1
theorem okRow_len {cs : SS} {l : List cs.T} (h : okV (.row cs) l) : l.length ≤ 140737488351232 := Nat.le_trans (Nat.le_mul_of_pos_right _ (SS.size_pos cs)) h.1
theorem dkOk.fit {x : Dk} (h : dkOk x) : dkFit x :=
  ⟨⟨okRow_len h.1, fun y hy => okRow_len (h.1.2 y hy)⟩, ⟨okRow_len (cs := .cons (.int .i64) (.one (.row (.one (.int .u8))))) h.2.1, fun y hy => okRow_len (h.2.1.2 y hy).2⟩, okRow_len (cs := .cons (.int .i64) (.cons (.int .i64) (.one (.int .i64)))) h.2.2⟩
/-- no more than a million -/
def dkSm (x : Dk) : Prop := (x.1.length ≤ 1048576 ∧ ∀ y ∈ x.1, y.length ≤ 1048576) ∧ (x.2.1.length ≤ 1048576 ∧ ∀ y ∈ x.2.1, y.2.length ≤ 1048576) ∧ x.2.2.2.1.length ≤ 1048576 ∧ dkW x ≤ 10000000
theorem sum_three (l : List (Int × Int × Int)) : wSum (fun _ : Int × Int × Int => 3) l = 3 * l.length := by
  induction l with
  | nil => rfl
  | cons y l ih => rw [wSum_cons, ih, List.length_cons]; omega
theorem sum_ww (l : List (Int × List Int)) : wSum ww l = l.length + wSum (fun x => x.2.length) l := by
  induction l with
  | nil => rfl
  | cons y l ih => rw [wSum_cons, wSum_cons, ih, List.length_cons]; unfold ww; omega
theorem dkSm.fit {x : Dk} (h : dkSm x) : dkFit x := ⟨⟨by have := h.1.1; omega, fun y hy => by have := h.1.2 y hy; omega⟩, ⟨by have := h.2.1.1; omega, fun y hy => by have := h.2.1.2 y hy; omega⟩, by have := h.2.2.1; omega⟩
theorem laws_szDisk.sp {d : Nat} (hd : 4 ≤ d) {x : Dk} (hf : dkFit x) : Tells (laws_szDisk.f d (x.1, x.2.1, x.2.2.1, x.2.2.2.1, x.2.2.2.2, 1048576)) fun r => 0 ≤ r → dkSm x := by
  obtain ⟨d, rfl, _⟩ := dep hd
  rw [laws_szDisk.t_eq]
  dsimp only [laws_szDisk.m]
  refine tb (laws_szByteSS.sp (by omega) (by omega) (by omega) hf.1.1 hf.1.2) fun a ha => tif (fun _ => tl fun h => by omega) fun c => ?_
  refine tb (laws_szWriteS.sp (by omega) (by omega) (by omega) hf.2.1.1 hf.2.1.2) fun b hb => tif (fun _ => tl fun h => by omega) fun c2 => ?_
  refine tb (laws_szFaultS.sp (by omega) (by omega) (by omega) hf.2.2) fun e he => tif (fun _ => tl fun h => by omega) fun c3 => tl fun _ => ?_
  have h1 := ha.2 (by omega)
  have h2 := hb.2 (by omega)
  have h3 := he.2 (by omega)
  refine ⟨⟨by omega, fun y hy => by have := mem_wSum (w := List.length) hy; omega⟩, ⟨by omega, fun y hy => by have h : y.2.length ≤ wSum (fun x : Int × List Int => x.2.length) x.2.1 := mem_wSum (w := fun x : Int × List Int => x.2.length) hy; omega⟩, by omega, ?_⟩
  unfold dkW
  rw [sum_three, sum_ww]
  omega
theorem laws_toByteS.sp {d : Nat} (hd : 1 ≤ d) {l : List Int} (hl : l.length ≤ 1048576) : laws_toByteS.f d l = some l := by
  obtain ⟨d, rfl, _⟩ := dep hd
  rw [laws_toByteS.t_eq]
  dsimp only [laws_toByteS.m]
  refine Tells.eq (tt (by simp; omega) ?_)
  have := loopFill (laws_toByteS.S0 d) l id (List.replicate (Int.toNat (l.length : Int)) (0 : Int)) (by simp) (by omega) (fun L st h => ?_) fun L st i Q hi h ih => ?_
  · simpa using this
  · dsimp only [laws_toByteS.S0, laws_toByteS.s0]
    exact tn (by omega) (tl rfl)
  · dsimp only [laws_toByteS.S0, laws_toByteS.s0]
    refine tp (by omega) (ti hi (ti (by omega) ?_))
    rw [getD_in hi, wrap_succ (by omega)]
    exact ih
theorem laws_toByteSS.sp {d : Nat} (hd : 2 ≤ d) {l : List (List Int)} (hl : l.length ≤ 1048576) (hx : ∀ x ∈ l, x.length ≤ 1048576) : laws_toByteSS.f d l = some l := by
  obtain ⟨d, rfl, _⟩ := dep hd
  rw [laws_toByteSS.t_eq]
  dsimp only [laws_toByteSS.m]
  refine Tells.eq (tt (by simp; omega) ?_)
  have := loopFill (laws_toByteSS.S0 d) l id (List.replicate (Int.toNat (l.length : Int)) ([] : List Int)) (by simp) (by omega) (fun L st h => ?_) fun L st i Q hi h ih => ?_
  · simpa using this
  · dsimp only [laws_toByteSS.S0, laws_toByteSS.s0]
    exact tn (by omega) (tl rfl)
  · dsimp only [laws_toByteSS.S0, laws_toByteSS.s0]
    refine tp (by omega) (ti hi ?_)
    rw [getD_in hi, wrap_succ (by omega)]
    exact tc (laws_toByteS.sp (by omega) (hx _ (List.getElem_mem hi))) (ti (by omega) ih)
theorem laws_toWriteS.sp {d : Nat} (hd : 3 ≤ d) {l : List (Int × List Int)} (hl : l.length ≤ 1048576) (hx : ∀ x ∈ l, x.2.length ≤ 1048576) : laws_toWriteS.f d l = some l := by
  obtain ⟨d, rfl, _⟩ := dep hd
  rw [laws_toWriteS.t_eq]
  dsimp only [laws_toWriteS.m]
  refine Tells.eq (tt (by simp; omega) ?_)
  have := loopFill (laws_toWriteS.S0 d) l id (List.replicate (Int.toNat (l.length : Int)) ((0 : Int), ([] : List Int))) (by simp) (by omega) (fun L st h => ?_) fun L st i Q hi h ih => ?_
  · simpa using this
  · dsimp only [laws_toWriteS.S0, laws_toWriteS.s0]
    exact tn (by omega) (tl rfl)
  · dsimp only [laws_toWriteS.S0, laws_toWriteS.s0]
    refine tp (by omega) (ti hi ?_)
    rw [getD_in hi, wrap_succ (by omega)]
    obtain ⟨d, rfl, _⟩ := dep (show 1 + 1 ≤ d by omega)
    have e : laws_toWrite.f (d + 1) (l[i].1, l[i].2) = some l[i] := by
      rw [laws_toWrite.t_eq]
      dsimp only [laws_toWrite.m]
      rw [laws_toByteS.sp (by omega) (hx _ (List.getElem_mem hi))]; rfl
    refine tc e (ti (by omega) ?_)
    simpa [show i < st.length by omega] using ih
theorem laws_toDisk.sp {d : Nat} (hd : 4 ≤ d) {x : Dk} (h : dkSm x) : laws_toDisk.f d (x.1, x.2.1, x.2.2.1, x.2.2.2.1, x.2.2.2.2) = some x := by
  obtain ⟨d, rfl, _⟩ := dep hd
  rw [laws_toDisk.t_eq]
  dsimp only [laws_toDisk.m]
  exact Tells.eq (tc (laws_toByteSS.sp (by omega) h.1.1 h.1.2) (tc (laws_toWriteS.sp (by omega) h.2.1.1 h.2.1.2) (tc (laws_toFaultS.sp (by omega) h.2.2.1) (tl rfl))))
def lastW (ws : List (Int × List Int)) (n : Int) (z : List Int) : List Int := match ws.reverse.find? (fun w => w.1 == n) with
  | some w => w.2
  | none => z
theorem lastW_snoc {ws : List (Int × List Int)} {i : Nat} (h : i < ws.length) {n : Int} {z : List Int} : lastW (ws.take (i + 1)) n z = if ws[i].1 = n then ws[i].2 else lastW (ws.take i) n z := by
  unfold lastW
  rw [List.take_add_one, List.getElem?_eq_getElem h, Option.toList_some, List.reverse_append, List.reverse_singleton, List.singleton_append, List.find?_cons]
  by_cases hn : ws[i].1 = n
  · rw [if_pos hn, show (ws[i].1 == n) = true by simpa using hn]
  · rw [if_neg hn, show (ws[i].1 == n) = false by simpa using hn]
def readM (x : Dk) (n : Int) : List Int × Bool := if inB n 0 ((x.1.length : Int) - 1) = true then (lastW x.2.1 n (x.1.getD n.toNat []), true) else ([], false)
theorem lastW_mem {ws : List (Int × List Int)} {n : Int} {z : List Int} {P : List Int → Prop} (hz : P z) (hw : ∀ w ∈ ws, P w.2) : P (lastW ws n z) := by
  unfold lastW
  split
  · rename_i w h; exact hw w (List.mem_reverse.1 (List.mem_of_find?_eq_some h))
  · exact hz
theorem readM_fit {x : Dk} {n : Int} {k : Nat} (h : (∀ y ∈ x.1, y.length ≤ k) ∧ ∀ y ∈ x.2.1, y.2.length ≤ k) : (readM x n).1.length ≤ k := by
  unfold readM
  split
  · rename_i hn
    have := inB_iff.1 hn
    have hi : n.toNat < x.1.length := by omega
    refine lastW_mem (P := fun l => l.length ≤ k) ?_ h.2
    rw [List.getD_eq_getElem?_getD, List.getElem?_eq_getElem hi]
    exact h.1 _ (List.getElem_mem hi)
  · simp
theorem impl_copyBytes.sp {d : Nat} (hd : 1 ≤ d) {l : List Int} (hl : l.length ≤ 140737488351232) : impl_copyBytes.f d l = some l := by
  obtain ⟨d, rfl, _⟩ := dep hd
  rw [impl_copyBytes.t_eq]
  dsimp only [impl_copyBytes.m]
  exact Tells.eq (tp (by simp only [List.length_nil, Nat.zero_add]; omega) (tl rfl))
theorem spec_ReadSec.sp {d : Nat} (hd : 2 ≤ d) {x : Dk} (hf : dkFit x) (n : Int) : spec_ReadSec.f d (x.1, x.2.1, x.2.2.1, x.2.2.2.1, x.2.2.2.2, n) = some (readM x n) := by
  obtain ⟨d, rfl, _⟩ := dep hd
  rw [spec_ReadSec.t_eq]
  dsimp only [spec_ReadSec.m]
  have hl1 := hf.1.1
  have hl2 := hf.2.1.1
  rw [wrap_id (by omega) (by omega), wrap_id (by omega) (by omega)]
  refine Tells.eq (tc (spec_l1In.sp (by omega) _ _ _) (tbif (fun c => tl (by simp at c; simp [readM, c])) fun c => ?_))
  simp only [Bool.not_eq_false'] at c
  have hn := inB_iff.1 c
  have e : readM x n = (lastW (x.2.1.take x.2.1.length) n (x.1.getD n.toNat []), true) := by unfold readM; rw [if_pos c, List.take_length]
  rw [e]
  have hi : n.toNat < x.1.length := by omega
  have hz : n = ((n.toNat : Nat) : Int) := by omega
  refine loopDown (spec_ReadSec.S0 d) x.2.1.length (fun i => (n, i, x.1, x.2.1, x.2.2.1, x.2.2.2.1, x.2.2.2.2)) (fun i r => r = (lastW (x.2.1.take i) n (x.1.getD n.toNat []), true)) (by omega) (fun L => ?_) fun L i hi ih => ?_
  · dsimp only [spec_ReadSec.S0, spec_ReadSec.s0]
    have hb := hf.1.2 _ (List.getElem_mem hi)
    refine tn (by omega) (tt (by simp; omega) (tp ?_ (tl rfl)))
    rw [List.getD_eq_getElem?_getD, List.getElem?_eq_getElem hi]
    simp only [List.length_nil, Nat.zero_add, Option.getD_some]; omega
  · dsimp only [spec_ReadSec.S0, spec_ReadSec.s0]
    have hb := hf.2.1.2 _ (List.getElem_mem hi)
    rw [lastW_snoc hi, getD_in hi, wrap_id (by omega) (by omega)]
    refine tp (by omega) (ti hi (tbif (fun c => ti hi (tp (by simp only [List.length_nil, Nat.zero_add]; omega) (tl ?_))) fun c => ?_))
    · rw [if_pos (by simpa using c)]; rfl
    · rw [if_neg (by simpa using c)]; exact ih
theorem impl_ReadSec.sp {d : Nat} (hd : 2 ≤ d) {x : Dk} (hf : dkFit x) (n : Int) : impl_ReadSec.f d (x.1, x.2.1, x.2.2.1, x.2.2.2.1, x.2.2.2.2, n) = some (readM x n) := by
  obtain ⟨d, rfl, _⟩ := dep hd
  rw [impl_ReadSec.t_eq]
  dsimp only [impl_ReadSec.m]
  have hl1 := hf.1.1
  have hl2 := hf.2.1.1
  rw [wrap_id (by omega) (by omega), wrap_id (by omega) (by omega)]
  refine Tells.eq (tc (impl_in.sp (by omega) _ _ _) (tbif (fun c => tl (by simp at c; simp [readM, c])) fun c => ?_))
  simp only [Bool.not_eq_false'] at c
  have hn := inB_iff.1 c
  have e : readM x n = (lastW (x.2.1.take x.2.1.length) n (x.1.getD n.toNat []), true) := by unfold readM; rw [if_pos c, List.take_length]
  rw [e]
  have hi : n.toNat < x.1.length := by omega
  refine loopDown (impl_ReadSec.S0 d) x.2.1.length (fun i => (n, i, x.1, x.2.1, x.2.2.1, x.2.2.2.1, x.2.2.2.2)) (fun i r => r = (lastW (x.2.1.take i) n (x.1.getD n.toNat []), true)) (by omega) (fun L => ?_) fun L i hi ih => ?_
  · dsimp only [impl_ReadSec.S0, impl_ReadSec.s0]
    have hb := hf.1.2 _ (List.getElem_mem hi)
    refine tn (by omega) (tt (by simp; omega) (tc (impl_copyBytes.sp (by omega) ?_) (tl rfl)))
    rw [List.getD_eq_getElem?_getD, List.getElem?_eq_getElem hi]
    exact hb
  · dsimp only [impl_ReadSec.S0, impl_ReadSec.s0]
    rw [lastW_snoc hi, getD_in hi, wrap_id (by omega) (by omega)]
    refine tp (by omega) (ti hi (tbif (fun c => ti hi (tc (impl_copyBytes.sp (by omega) (hf.2.1.2 _ (List.getElem_mem hi))) (tl ?_))) fun c => ?_))
    · rw [if_pos (by simpa using c)]
    · rw [if_neg (by simpa using c)]; exact ih
theorem laws_markByteS.held {d d2 : Nat} (hd : 1 ≤ d) (hd2 : 1 ≤ d2) {l : List Int} {n : Int} (h0 : 0 ≤ n) (hl : l.length ≤ 140737488351232) (hn : n + l.length ≤ 4611686018427387904) :
    Tells (laws_markByteS.f d (l, n)) (fun r => 0 ≤ r.1 ∧ laws_heldByteS.f d2 (r.2, n) = some r.1) :=
  (laws_markByteS.sp hd h0 hl hn).mono fun r hr => ⟨by omega, by rw [laws_heldByteS.sp hd2 h0 (by rw [hr.2.2]; exact hl) (by rw [hr.2.2]; exact hn) hr.2.1, hr.1, hr.2.2]⟩
def onM (x : Dk) : Dk := (x.1, x.2.1, x.2.2.1, x.2.2.2.1, false)
theorem laws_markDisk.sum {d : Nat} (hd : 3 ≤ d) {x : Dk} {n : Int} (h0 : 0 ≤ n) (hf : dkFit x) (hn : n + dkW x ≤ 4611686018427387904) :
    Tells (laws_markDisk.f d (x.1, x.2.1, x.2.2.1, x.2.2.2.1, x.2.2.2.2, n)) (fun r => r.1 = n + dkW x) := by
  obtain ⟨d, rfl, _⟩ := dep hd
  rw [laws_markDisk.t_eq]
  dsimp only [laws_markDisk.m]
  unfold dkW at hn ⊢
  refine tb (laws_markByteSS.sp (by omega) h0 hf.1.1 hf.1.2 (by omega)) fun a ha => ?_
  refine tb (laws_markWriteS.sp (by omega) (by omega) hf.2.1.1 (by omega) hf.2.1.2) fun b hb => ?_
  exact tb (laws_markFaultS.sp (by omega) (by omega) hf.2.2 (by omega)) fun c hc => tl (by omega)
def faultM (fs : List (Int × Int × Int)) (p : Int) : Int × Int × Int × Bool := match fs.find? (fun f => f.1 == p) with
  | some f => (f.1, f.2.1, f.2.2, true)
  | none => (0, 0, 0, false)
theorem faultM_cons {f : Int × Int × Int} {r : List (Int × Int × Int)} {p : Int} : faultM (f :: r) p = if f.1 = p then (f.1, f.2.1, f.2.2, true) else faultM r p := by
  unfold faultM
  rw [List.find?_cons]
  by_cases h : f.1 = p
  · rw [if_pos h, show (f.1 == p) = true by simpa using h]
  · rw [if_neg h, show (f.1 == p) = false by simpa using h]
theorem faultM_mem {fs : List (Int × Int × Int)} {p : Int} (h : (faultM fs p).2.2.2 = true) : ((faultM fs p).1, (faultM fs p).2.1, (faultM fs p).2.2.1) ∈ fs := by
  unfold faultM at h ⊢
  cases hf : fs.find? (fun f => f.1 == p) with
  | none => rw [hf] at h; cases h
  | some f => exact List.mem_of_find?_eq_some hf
def applyW : List (List Int) → List (Int × List Int) → List (List Int)
  | ss, [] => ss
  | ss, w :: r => applyW (ss.set w.1.toNat w.2) r
theorem applyW_snoc : ∀ {ws : List (Int × List Int)} {ss : List (List Int)} {w : Int × List Int}, applyW ss (ws ++ [w]) = (applyW ss ws).set w.1.toNat w.2
  | [], _, _ => rfl
  | _ :: r, ss, w => applyW_snoc (ws := r)
theorem applyW_len : ∀ {ws : List (Int × List Int)} {ss : List (List Int)}, (applyW ss ws).length = ss.length
  | [], _ => rfl
  | w :: r, ss => by rw [applyW, applyW_len (ws := r), List.length_set]
theorem applyW_all {P : List Int → Prop} : ∀ {ws : List (Int × List Int)} {ss : List (List Int)}, (∀ y ∈ ss, P y) → (∀ w ∈ ws, P w.2) → ∀ y ∈ applyW ss ws, P y
  | [], _, h, _ => h
  | w :: r, ss, h, hw => applyW_all (ws := r) (fun y hy => by
      rcases List.mem_or_eq_of_mem_set hy with h1 | h1
      · exact h y h1
      · rw [h1]; exact hw w (by simp)) fun x hx => hw x (by simp [hx])
/-- sectors that are there, rows that memory holds -/
def wrIn (n : Nat) (ws : List (Int × List Int)) : Prop := ∀ w ∈ ws, 0 ≤ w.1 ∧ w.1 < n ∧ w.2.length ≤ 1048576
/-- the mask's bit -/
def bitM (m : Int) (i : Nat) : Int := IntKind.wrap IntKind.i64 ((BitVec.ofInt (IntKind.bits IntKind.i64) (Int.fdiv m (2 ^ (min i (IntKind.bits IntKind.i64)))) &&& BitVec.ofInt (IntKind.bits IntKind.i64) (1 : Int)).toNat : Int)
theorem bitM_one (m : Int) (i : Nat) : bitM m i = 0 ∨ bitM m i = 1 := by
  unfold bitM
  have h : (BitVec.ofInt (IntKind.bits IntKind.i64) (Int.fdiv m (2 ^ (min i (IntKind.bits IntKind.i64)))) &&& BitVec.ofInt (IntKind.bits IntKind.i64) (1 : Int)).toNat ≤ 1 := by
    rw [BitVec.toNat_and]
    exact Nat.and_le_right
  rw [wrap_id (by omega) (by omega)]
  omega
def isKept (m : Int) (i : Nat) : Bool := decide (i < 20) && (bitM m i == 1)
def keptW (m : Int) (ws : List (Int × List Int)) : Nat → List (Int × List Int)
  | 0 => []
  | n + 1 => keptW m ws n ++ (if isKept m n = true then (match ws[n]? with | some w => [w] | none => []) else [])
theorem keptW_len {m : Int} {ws : List (Int × List Int)} : ∀ {n : Nat}, (keptW m ws n).length ≤ n
  | 0 => Nat.le_refl _
  | n + 1 => by
    have := keptW_len (m := m) (ws := ws) (n := n)
    simp only [keptW, List.length_append]
    have h : (if isKept m n = true then (match ws[n]? with | some w => [w] | none => []) else []).length ≤ 1 := by
      split
      · split <;> simp
      · simp
    omega
theorem keptW_mem {m : Int} {ws : List (Int × List Int)} : ∀ {n : Nat} {w : Int × List Int}, w ∈ keptW m ws n → w ∈ ws
  | 0, w, h => by cases h
  | n + 1, w, h => by
    simp only [keptW, List.mem_append] at h
    rcases h with h | h
    · exact keptW_mem h
    · split at h
      · split at h
        · rename_i w' hw
          simp only [List.mem_singleton] at h
          rw [h]; exact List.mem_of_getElem? hw
        · cases h
      · cases h
theorem keptW_same {m : Int} {ws : List (Int × List Int)} {n : Nat} : ∀ k, (∀ j, n ≤ j → isKept m j = false ∨ ws.length ≤ j) → keptW m ws (n + k) = keptW m ws n
  | 0, _ => rfl
  | k + 1, h => by
    rw [← Nat.add_assoc]
    simp only [keptW]
    rw [keptW_same k h]
    rcases h (n + k) (by omega) with h1 | h1
    · rw [h1]; simp
    · rw [List.getElem?_eq_none h1]; simp
/-- the last one is cut -/
def cutW (c : Int) (w : Int × List Int) : Int × List Int := (w.1, w.2.take c.toNat)
def cutLast (c : Int) (l : List (Int × List Int)) : List (Int × List Int) := match l.getLast? with
  | none => []
  | some w => l.dropLast ++ [cutW c w]
theorem cutLast_snoc {c : Int} {l : List (Int × List Int)} {w : Int × List Int} : cutLast c (l ++ [w]) = l ++ [cutW c w] := by
  unfold cutLast
  rw [List.getLast?_concat, List.dropLast_concat]
def loseM (x : Dk) (m c : Int) : Dk := (applyW x.1 (cutLast c (keptW m x.2.1 x.2.1.length)), [], x.2.2.1, x.2.2.2.1, true)
theorem take_min {l : List Int} {c : Int} (h : 0 ≤ c) : l.take (Int.toNat (bif decide ((l.length : Int) < c) then (l.length : Int) else c)) = l.take c.toNat := by
  by_cases hc : (l.length : Int) < c
  · rw [decide_eq_true hc, cond_true, Int.toNat_natCast, List.take_length, List.take_of_length_le (by omega)]
  · rw [decide_eq_false hc, cond_false]
theorem wrap_u64 {i : Nat} (h : i < 4611686018427387904) : IntKind.wrap IntKind.u64 (i : Int) = (i : Int) := by
  have e : (2 : Int) ^ 64 = 18446744073709551616 := by decide
  simp only [IntKind.wrap, IntKind.signed, IntKind.bits, Bool.false_and, Bool.false_eq_true, if_false, e]
  omega
theorem keptW_at {m : Int} {ws : List (Int × List Int)} {j : Nat} (h : j < ws.length) (hk : isKept m j = true) : keptW m ws (j + 1) = keptW m ws j ++ [ws[j]] := by
  simp only [keptW, hk, if_true, List.getElem?_eq_getElem h]
theorem keptW_not {m : Int} {ws : List (Int × List Int)} {j : Nat} (hk : isKept m j = false) : keptW m ws (j + 1) = keptW m ws j := by
  simp only [keptW, hk, Bool.false_eq_true, if_false, List.append_nil]
def dkGood (x : Dk) : Prop := dkSm x ∧ wrIn x.1.length x.2.1 ∧ (∀ f ∈ x.2.2.2.1, 0 ≤ f.2.2) ∧ x.2.2.1 ≤ 1000000000 ∧ -1000000000 ≤ x.2.2.1
def pulsed (x : Dk) : Dk := (x.1, x.2.1, x.2.2.1 + 1, x.2.2.2.1, x.2.2.2.2)
def flushM (x : Dk) : Int × Dk :=
  if x.2.2.2.2 = true then (9, x) else if x.2.2.1 ≥ 100000 then (9, x)
  else if (faultM x.2.2.2.1 x.2.2.1).2.2.2 = true then (9, loseM (pulsed x) (faultM x.2.2.2.1 x.2.2.1).2.1 (faultM x.2.2.2.1 x.2.2.1).2.2.1)
  else (0, applyW x.1 x.2.1, [], x.2.2.1 + 1, x.2.2.2.1, x.2.2.2.2)
theorem diskOk_good {x : Dk} (sm : dkSm x) (h : diskOkM x.1 x.2.1 x.2.2.1 x.2.2.2.1 x.2.2.2.2 = true) : dkGood x := by
  unfold diskOkM at h
  simp only [Bool.and_eq_true] at h
  obtain ⟨⟨⟨⟨⟨⟨h1, h2⟩, h3⟩, h4⟩, h5⟩, h6⟩, h7⟩ := h
  have hp := inB_iff.1 h5
  refine ⟨sm, fun w hw => ?_, fun f hf => ?_, by omega, by omega⟩
  · have := List.all_eq_true.1 h2 w hw
    unfold wrOk at this
    simp only [Bool.and_eq_true, decide_eq_true_eq] at this
    have hi := inB_iff.1 this.1
    exact ⟨by omega, by omega, by omega⟩
  · unfold faultsOkM at h6
    simp only [Bool.and_eq_true] at h6
    have key : ∀ (l : List (Int × Int × Int)) (o : Option (Int × Int × Int)), faultsM o l = true → ∀ f ∈ l, 0 ≤ f.2.2 := by
      intro l
      induction l with
      | nil => intro _ _ f hf; cases hf
      | cons a r ih =>
        intro o ho f hf
        simp only [faultsM, Bool.and_eq_true] at ho
        obtain ⟨ha, hr⟩ := ho
        rcases List.mem_cons.1 hf with rfl | hf
        · unfold fOk at ha
          simp only [Bool.and_eq_true] at ha
          exact (inB_iff.1 ha.2.2).1
        · cases o with
          | none => exact ih _ hr f hf
          | some y =>
            simp only [Bool.and_eq_true] at hr
            exact ih _ hr.2 f hf
    exact key _ _ h6.1 f hf
/-- what the document says of a call that may not be: its code -/
def mayM (x : Dk) : Int := if diskOkM x.1 x.2.1 x.2.2.1 x.2.2.2.1 x.2.2.2.2 = true then (if x.2.2.2.2 = true then 9 else if x.2.2.1 ≥ 100000 then 9 else 0) else 1
def flushAll (x : Dk) : (List (List Int)) × (List (Int × (List Int))) × Int × (List (Int × Int × Int)) × Bool × Int :=
  if diskOkM x.1 x.2.1 x.2.2.1 x.2.2.2.1 x.2.2.2.2 = true then ((flushM x).2.1, (flushM x).2.2.1, (flushM x).2.2.2.1, (flushM x).2.2.2.2.1, (flushM x).2.2.2.2.2, (flushM x).1) else (x.1, x.2.1, x.2.2.1, x.2.2.2.1, x.2.2.2.2, 1)
theorem wSum_le {β : Type} {w : β → Nat} {k : Nat} : ∀ {l : List β}, (∀ x ∈ l, w x ≤ k) → wSum w l ≤ l.length * k
  | [], _ => Nat.zero_le _
  | x :: l, h => by
    have := wSum_le (l := l) fun y hy => h y (by simp [hy])
    have h0 := h x (by simp)
    rw [wSum_cons, List.length_cons, Nat.add_mul]
    omega
/-- rows and numbers of a size that may be marked -/
def dkB (x : Dk) : Prop := (x.1.length ≤ 1048577 ∧ ∀ y ∈ x.1, y.length ≤ 1048577) ∧ (x.2.1.length ≤ 1048577 ∧ ∀ y ∈ x.2.1, y.2.length ≤ 1048577) ∧ x.2.2.2.1.length ≤ 1048577
theorem dkB.fit {x : Dk} (h : dkB x) : dkFit x := ⟨⟨by have := h.1.1; omega, fun y hy => by have := h.1.2 y hy; omega⟩, ⟨by have := h.2.1.1; omega, fun y hy => by have := h.2.1.2 y hy; omega⟩, by have := h.2.2; omega⟩
theorem dkB.wide {x : Dk} (h : dkB x) : dkW x ≤ 4000000000000000 := by
  unfold dkW
  have h1 := wSum_le (w := List.length) (k := 1048577) h.1.2
  have h2 := wSum_le (w := ww) (k := 1048578) (l := x.2.1) fun y hy => by have := h.2.1.2 y hy; unfold ww; omega
  have h3 := sum_three x.2.2.2.1
  have a1 : x.1.length * 1048577 ≤ 1048577 * 1048577 := Nat.mul_le_mul_right _ h.1.1
  have a2 : x.2.1.length * 1048578 ≤ 1048577 * 1048578 := Nat.mul_le_mul_right _ h.2.1.1
  have a3 := h.2.2
  omega
theorem dkSm.b {x : Dk} (h : dkSm x) : dkB x := ⟨⟨by have := h.1.1; omega, fun y hy => by have := h.1.2 y hy; omega⟩, ⟨by have := h.2.1.1; omega, fun y hy => by have := h.2.1.2 y hy; omega⟩, by have := h.2.2.1; omega⟩
abbrev Dc := (List (List Int)) × (List (Int × (List Int))) × Int × (List (Int × Int × Int)) × Bool × Int
def dkOf (r : Dc) : Dk := (r.1, r.2.1, r.2.2.1, r.2.2.2.1, r.2.2.2.2.1)
theorem keptW_fit {m : Int} {ws : List (Int × List Int)} {n k : Nat} (h : ∀ w ∈ ws, w.2.length ≤ k) {c : Int} : ∀ w ∈ cutLast c (keptW m ws n), w.2.length ≤ k := by
  intro w hw
  unfold cutLast at hw
  split at hw
  · cases hw
  · rename_i v hv
    have hm := List.mem_of_getLast? hv
    rcases List.mem_append.1 hw with h1 | h1
    · exact h w (keptW_mem (List.dropLast_subset _ h1))
    · obtain rfl := List.mem_singleton.1 h1
      have := h v (keptW_mem hm)
      simp only [cutW, List.length_take]
      omega
theorem loseM_b {x : Dk} {m c : Int} (h : dkB x) : dkB (loseM x m c) :=
  ⟨⟨by unfold loseM; rw [applyW_len]; exact h.1.1, applyW_all h.1.2 (keptW_fit h.2.1.2)⟩, ⟨Nat.zero_le _, fun y hy => by cases hy⟩, h.2.2⟩
theorem flushM_b {x : Dk} (h : dkB x) : dkB (flushM x).2 := by
  unfold flushM
  split
  · exact h
  · split
    · exact h
    · split
      · exact loseM_b (x := pulsed x) h
      · exact ⟨⟨by rw [applyW_len]; exact h.1.1, applyW_all h.1.2 h.2.1.2⟩, ⟨Nat.zero_le _, fun y hy => by cases hy⟩, h.2.2⟩
theorem flushAll_b {x : Dk} (h : dkB x) : dkB (dkOf (flushAll x)) := by
  unfold flushAll
  split
  · exact flushM_b h
  · exact h
theorem laws_eqDisk.selfc {d : Nat} (hd : 4 ≤ d) {r : Dc} (h : dkFit (dkOf r)) : laws_eqDisk.f d (r.1, r.2.1, r.2.2.1, r.2.2.2.1, r.2.2.2.2.1, r.1, r.2.1, r.2.2.1, r.2.2.2.1, r.2.2.2.2.1) = some true := laws_eqDisk.self (x := dkOf r) hd h
def wrote (x : Dk) (n : Int) (b : List Int) : Dk := (x.1, x.2.1 ++ [(n, b)], x.2.2.1 + 1, x.2.2.2.1, x.2.2.2.2)
def writeM (x : Dk) (n : Int) (b : List Int) : Int × Dk :=
  if x.2.2.2.2 = true then (9, x) else if x.2.2.1 ≥ 100000 then (9, x) else if (x.2.1.length : Int) ≥ 60 then (1, x)
  else if (faultM x.2.2.2.1 x.2.2.1).2.2.2 = true then (9, loseM (wrote x n b) (faultM x.2.2.2.1 x.2.2.1).2.1 (faultM x.2.2.2.1 x.2.2.1).2.2.1)
  else (0, wrote x n b)
def packC (r : Int × Dk) : Dc := (r.2.1, r.2.2.1, r.2.2.2.1, r.2.2.2.2.1, r.2.2.2.2.2, r.1)
def writeAll (x : Dk) (n : Int) (b : List Int) : Dc :=
  if diskOkM x.1 x.2.1 x.2.2.1 x.2.2.2.1 x.2.2.2.2 = true ∧ inB n 0 ((x.1.length : Int) - 1) = true ∧ ¬ (b.length : Int) > 256 ∧ ¬ (x.2.1.length : Int) ≥ 60 then packC (writeM x n b) else packC (1, x)
theorem wrote_in {x : Dk} {n : Int} {b : List Int} (hw : wrIn x.1.length x.2.1) (hn : inB n 0 ((x.1.length : Int) - 1) = true) (hb : b.length ≤ 1048576) : wrIn (wrote x n b).1.length (wrote x n b).2.1 := by
  intro w h
  have hi := inB_iff.1 hn
  rcases List.mem_append.1 h with h1 | h1
  · exact hw w h1
  · obtain rfl := List.mem_singleton.1 h1
    exact ⟨hi.1, by unfold wrote; simp only; omega, hb⟩
theorem wrote_b {x : Dk} (h : dkSm x) {n : Int} {b : List Int} (hb : b.length ≤ 1048577) : dkB (wrote x n b) :=
  ⟨h.b.1, ⟨by have := h.2.1.1; unfold wrote; simp only [List.length_append, List.length_singleton]; omega, fun y hy => by
    rcases List.mem_append.1 hy with h1 | h1
    · exact h.b.2.1.2 y h1
    · obtain rfl := List.mem_singleton.1 h1; exact hb⟩, h.b.2.2⟩
theorem writeAll_b {x : Dk} (h : dkSm x) {n : Int} {b : List Int} (hb : b.length ≤ 1048576) : dkB (dkOf (writeAll x n b)) := by
  have hw : dkB (wrote x n b) := wrote_b h (by omega)
  unfold writeAll
  split
  · unfold writeM
    split
    · exact h.b
    · split
      · exact h.b
      · split
        · exact h.b
        · split
          · exact loseM_b hw
          · exact hw
  · exact h.b
theorem xx_u32 {a b : Nat} (ha : a < 2 ^ 32) (hb : b < 2 ^ 32) : IntKind.wrap IntKind.u32 ((BitVec.ofInt (IntKind.bits IntKind.u32) (a : Int) ^^^ BitVec.ofInt (IntKind.bits IntKind.u32) (b : Int)).toNat : Int) = ((a ^^^ b : Nat) : Int) := xor_u32 a b ha hb
theorem xx_i64 {a b : Nat} (ha : a < 2 ^ 32) (hb : b < 2 ^ 32) : IntKind.wrap IntKind.i64 ((BitVec.ofInt (IntKind.bits IntKind.i64) (a : Int) ^^^ BitVec.ofInt (IntKind.bits IntKind.i64) (b : Int)).toNat : Int) = ((a ^^^ b : Nat) : Int) := xor_i64 a b ha hb
theorem a1_u32 {a : Nat} (ha : a < 2 ^ 32) : IntKind.wrap IntKind.u32 ((BitVec.ofInt (IntKind.bits IntKind.u32) (a : Int) &&& BitVec.ofInt (IntKind.bits IntKind.u32) (1 : Int)).toNat : Int) = (a : Int) % 2 := and1_u32 a ha
theorem a1_i64 {a : Nat} (ha : a < 2 ^ 32) : IntKind.wrap IntKind.i64 ((BitVec.ofInt (IntKind.bits IntKind.i64) (a : Int) &&& BitVec.ofInt (IntKind.bits IntKind.i64) (1 : Int)).toNat : Int) = (a : Int) % 2 := and1_i64 a ha
theorem half (a : Nat) (k : Nat) (hk : 1 ≤ k) : Int.fdiv (a : Int) (2 ^ (min (Int.toNat (1 : Int)) k)) = ((a / 2 : Nat) : Int) := by
  rw [show min (Int.toNat (1 : Int)) k = 1 by simp; omega, show (2 : Int) ^ 1 = 2 from rfl, Int.fdiv_eq_ediv_of_nonneg _ (by omega)]
  omega
/-- eight rounds on one byte -/
theorem eight {A R : Type} (s : (A → Option R) → A → Option R) (mk : Nat → Int → A) (P : R → Prop) {x : Nat} (hx : x < 2 ^ 32)
    (base : ∀ L, Tells (s L (mk (crcN 8 x) 8)) P)
    (step : ∀ L (y j : Nat) Q, y < 2 ^ 32 → j < 8 → Tells (L (mk (crcStep y) ((j + 1 : Nat) : Int))) Q → Tells (s L (mk y (j : Int))) Q) : Tells (iter s rnds (mk x 0)) P := by
  refine loop0 (σ := Nat) s 8 mk (fun y j => y < 2 ^ 32 ∧ crcN (8 - j) y = crcN 8 x) (fun _ _ => P) x (by omega) ⟨hx, rfl⟩ ?_ ?_
  · rintro L y ⟨_, h⟩
    have : y = crcN 8 x := h
    rw [this]
    exact base L
  · rintro L y j ⟨h1, h2⟩ hj ih
    refine step L y j _ h1 hj (ih _ ⟨crcStep_lt h1, ?_⟩)
    rw [← h2, show 8 - j = (8 - (j + 1)) + 1 by omega]
    rfl
theorem byte_wrap_u32 {b : Int} (h0 : 0 ≤ b) (h1 : b ≤ 255) : IntKind.wrap IntKind.u32 b = ((b.toNat : Nat) : Int) := by
  rw [wraps_u32 b h0 (by omega)]; omega
theorem byte_wrap_i64 {b : Int} (h0 : 0 ≤ b) (h1 : b ≤ 255) : IntKind.wrap IntKind.i64 b = ((b.toNat : Nat) : Int) := by
  rw [wrap_id (by omega) (by omega)]; omega
theorem impl_Crc.sp {d : Nat} (hd : 1 ≤ d) {l : List Int} (hl : l.length ≤ 140737488355328) (hb : ∀ b ∈ l, 0 ≤ b ∧ b ≤ 255) : impl_Crc.f d l = some (crcM l) := by
  obtain ⟨d, rfl, _⟩ := dep hd
  rw [impl_Crc.t_eq]
  dsimp only [impl_Crc.m]
  refine Tells.eq ?_
  refine loop0 (σ := Nat) (impl_Crc.S0 d) l.length (fun x i => ((x : Int), l, (l.length : Int), i)) (fun x _ => x < 2 ^ 32) (fun x i r => r = ((crcFold x (l.drop i) ^^^ 4294967295 : Nat) : Int)) 4294967295 (by omega) (by decide) ?_ ?_
  · intro L x hx
    dsimp only [impl_Crc.S0, impl_Crc.s0]
    refine tn (by omega) (tl ?_)
    have e : (if IntKind.signed IntKind.u32 = true then (-1 : Int) else IntKind.max IntKind.u32) = ((4294967295 : Nat) : Int) := by decide
    rw [e, xx_u32 (by decide) hx, List.drop_length]
    have := Nat.xor_lt_two_pow (show 4294967295 < 2 ^ 32 by decide) hx
    rw [wrap_id (by omega) (by omega)]
    show _ = ((x ^^^ 4294967295 : Nat) : Int)
    rw [Nat.xor_comm]
  · intro L x i hx hi ih
    have hbb := hb _ (List.getElem_mem hi)
    dsimp only [impl_Crc.S0, impl_Crc.s0]
    rw [drop_at hi, getD_in hi, byte_wrap_u32 hbb.1 hbb.2, xx_u32 hx (by omega)]
    refine tp (by omega) (ti hi ?_)
    refine eight (impl_Crc.S2 d L) (fun y j => ((y : Int), l, (l.length : Int), (i : Int), j)) _ (Nat.xor_lt_two_pow hx (by omega)) (fun L2 => ?_) fun L2 y j Q hy hj ih2 => ?_
    · dsimp only [impl_Crc.S2, impl_Crc.s2]
      rw [wrap_succ (by omega)]
      exact tn (by omega) (ih (crcByte x l[i]) (crcByte_lt hx hbb.2))
    · dsimp only [impl_Crc.S2, impl_Crc.s2]
      rw [a1_u32 hy, half y _ (by decide), wrap_succ (by omega), show ((2197175160 : Int)) = ((2197175160 : Nat) : Int) from rfl, xx_u32 (by omega) (by decide)]
      unfold crcStep at ih2
      refine tp (by omega) (tp (by decide) (tbif (fun h => ?_) fun h => ?_))
      · have : (y : Int) % 2 = 1 := by simpa using h
        rwa [if_pos (by omega)] at ih2
      · have : ¬ (y : Int) % 2 = 1 := by simpa using h
        rwa [if_neg (by omega)] at ih2
theorem spec_Crc.sp {d : Nat} (hd : 1 ≤ d) {l : List Int} (hl : l.length ≤ 140737488355328) (hb : ∀ b ∈ l, 0 ≤ b ∧ b ≤ 255) : spec_Crc.f d l = some (crcM l) := by
  obtain ⟨d, rfl, _⟩ := dep hd
  rw [spec_Crc.t_eq]
  dsimp only [spec_Crc.m]
  refine Tells.eq ?_
  refine loop0 (σ := Nat) (spec_Crc.S0 d) l.length (fun x i => (l, (x : Int), i)) (fun x _ => x < 2 ^ 32) (fun x i r => r = ((crcFold x (l.drop i) ^^^ 4294967295 : Nat) : Int)) 4294967295 (by omega) (by decide) ?_ ?_
  · intro L x hx
    dsimp only [spec_Crc.S0, spec_Crc.s0]
    refine tn (by omega) (tl ?_)
    rw [show ((4294967295 : Int)) = ((4294967295 : Nat) : Int) from rfl, xx_i64 hx (by decide), List.drop_length]
    rfl
  · intro L x i hx hi ih
    have hbb := hb _ (List.getElem_mem hi)
    dsimp only [spec_Crc.S0, spec_Crc.s0]
    rw [drop_at hi, getD_in hi, byte_wrap_i64 hbb.1 hbb.2, xx_i64 hx (by omega)]
    refine tp (by omega) (ti hi ?_)
    refine eight (spec_Crc.S2 d L) (fun y j => (l, (y : Int), (i : Int), j)) _ (Nat.xor_lt_two_pow hx (by omega)) (fun L2 => ?_) fun L2 y j Q hy hj ih2 => ?_
    · dsimp only [spec_Crc.S2, spec_Crc.s2]
      rw [wrap_succ (by omega)]
      exact tn (by omega) (ih (crcByte x l[i]) (crcByte_lt hx hbb.2))
    · dsimp only [spec_Crc.S2, spec_Crc.s2]
      rw [a1_i64 hy, half y _ (by decide), wrap_succ (by omega), show ((2197175160 : Int)) = ((2197175160 : Nat) : Int) from rfl, xx_i64 (by omega) (by decide)]
      unfold crcStep at ih2
      refine tp (by omega) (tp (by decide) (tbif (fun h => ?_) fun h => ?_))
      · have : (y : Int) % 2 = 1 := by simpa using h
        rwa [if_pos (by omega)] at ih2
      · have : ¬ (y : Int) % 2 = 1 := by simpa using h
        rwa [if_neg (by omega)] at ih2
theorem impl_clamp.sp {d : Nat} (hd : 1 ≤ d) (n : Int) : impl_clamp.f d (n, 0, 1000000) = some (clampU n) := by
  obtain ⟨d, rfl, _⟩ := dep hd
  rw [impl_clamp.t_eq]
  dsimp only [impl_clamp.m]
  rw [clampU_mx]
  rfl
theorem u8_id {x : Int} (h0 : 0 ≤ x) (h1 : x ≤ 255) : IntKind.wrap IntKind.u8 x = x := by
  rw [IntKind.wrap_u8]; omega
theorem impl_addU.sp {d : Nat} (hd : 2 ≤ d) {l : List Int} {n : Int} (hl : l.length ≤ 100000000000) : impl_addU.f d (l, n) = some (l ++ uM n) := by
  obtain ⟨d, rfl, _⟩ := dep hd
  rw [impl_addU.t_eq]
  dsimp only [impl_addU.m]
  refine Tells.eq (tc (impl_clamp.sp (by omega) n) ?_)
  have hc := clampU_bd n
  unfold uM
  generalize clampU n = m at hc
  have last : ∀ (m : Int) (s : List Int) k, 0 ≤ m → m ≤ 127 → s.length ≤ 100000000010 → Tells (iter (impl_addU.S0 d) (k + 1) (m, s)) (· = s ++ [m]) := fun m s k h0 h1 h2 => by
    simp only [iter]
    dsimp only [impl_addU.S0, impl_addU.s0]
    rw [u8_id h0 (by omega)]
    exact tn (by omega) (tp (by simp; omega) (tl rfl))
  have more : ∀ (m : Int) (s : List Int) k Q, 127 < m → m ≤ 1000000 → s.length ≤ 100000000010 → Tells (iter (impl_addU.S0 d) k (m / 128, s ++ [m % 128 + 128])) Q → Tells (iter (impl_addU.S0 d) (k + 1) (m, s)) Q := fun m s k Q h0 h1 h2 ih => by
    simp only [iter]
    dsimp only [impl_addU.S0, impl_addU.s0]
    rw [Int.tmod_eq_emod_of_nonneg (by omega), Int.tdiv_eq_ediv_of_nonneg (by omega), wrap_id (x := m % 128 + 128) (by omega) (by omega), wrap_id (x := m / 128) (by omega) (by omega), u8_id (by omega) (by omega)]
    exact tp (by omega) (tp (by decide) (tp (by simp; omega) (tp (by decide) ih)))
  obtain ⟨k, hk⟩ : ∃ k, rnds = k + 1 + 1 + 1 := ⟨rnds - 3, by have := rnds_gt (n := 3) (by omega); omega⟩
  rw [hk]
  unfold groups
  by_cases c : m > 127
  · rw [if_pos c]
    refine more _ _ _ _ c hc.2 (by omega) ?_
    by_cases c2 : m / 128 > 127
    · rw [if_pos c2]
      refine more _ _ _ _ c2 (by omega) (by simp; omega) ?_
      have e : m / 128 / 128 = m / 16384 := by omega
      rw [e]
      exact (last _ _ _ (by omega) (by omega) (by simp; omega)).mono fun r hr => by rw [hr]; simp
    · rw [if_neg c2]
      exact (last _ _ _ (by omega) (by omega) (by simp; omega)).mono fun r hr => by rw [hr]; simp
  · rw [if_neg c]
    exact last _ _ _ (by omega) (by omega) (by omega)
theorem impl_addText.sp {d : Nat} (hd : 3 ≤ d) {l : List Int} {s : ByteArray} (hl : l.length ≤ 100000000000) (hs : s.size ≤ 1000000000) : impl_addText.f d (l, s) = some (l ++ txtM s) := by
  obtain ⟨d, rfl, _⟩ := dep hd
  rw [impl_addText.t_eq]
  dsimp only [impl_addText.m]
  have := uM_len s.size
  refine Tells.eq (tc (impl_addU.sp (by omega) hl) (tp ?_ (tl ?_)))
  · have h2 : (strNums s).length = s.size := by simp [strNums]
    rw [h2, List.length_append]; omega
  · unfold txtM
    rw [List.append_assoc]
theorem shr8 (c : Int) (k : Int) (j : Nat) (hk : k = 8 * (j : Int)) (hj : j ≤ 7) : Int.fdiv c (2 ^ (min (Int.toNat k) (IntKind.bits IntKind.i64))) = c / 256 ^ j := by
  subst hk
  exact shr_at c j hj
theorem impl_addSum.sp {d : Nat} (hd : 2 ≤ d) {l : List Int} (hl : l.length ≤ 100000000000) (hb : ∀ b ∈ l, 0 ≤ b ∧ b ≤ 255) : impl_addSum.f d l = some (l ++ sum4 (crcM l)) := by
  obtain ⟨d, rfl, _⟩ := dep hd
  rw [impl_addSum.t_eq]
  dsimp only [impl_addSum.m]
  refine Tells.eq (tc (impl_Crc.sp (by omega) (by omega) hb) (tp (by decide) (tp (by decide) (tp (by decide) (tp ?_ (tl ?_))))))
  · simp only [List.length_cons, List.length_nil]; omega
  · have hc := crcM_bd l fun b h => (hb b h).2
    rw [shr8 _ 24 3 rfl (by omega), shr8 _ 16 2 rfl (by omega), shr8 _ 8 1 rfl (by omega)]
    simp only [IntKind.wrap_u8, sum4]
    rfl
theorem impl_PutPage.sp {d : Nat} (hd : 4 ≤ d) {n : Int} {l : List Int} (hl : l.length ≤ 1000000000) (hb : ∀ b ∈ l, 0 ≤ b ∧ b ≤ 255) : impl_PutPage.f d (n, l) = some (pageM n l) := by
  obtain ⟨d, rfl, _⟩ := dep hd
  rw [impl_PutPage.t_eq]
  dsimp only [impl_PutPage.m]
  unfold pageM
  refine Tells.eq (tc (impl_in.sp (by omega) _ _ _) (tbif (fun c => tl ?_) fun c => ?_))
  · simp only [Bool.not_eq_true'] at c; rw [if_neg (by rw [c]; simp)]
  simp only [Bool.not_eq_false'] at c
  refine tif (fun c2 => tl ?_) fun c2 => ?_
  · rw [if_neg (fun h => by have := h.2; omega)]
  rw [if_pos ⟨c, by omega⟩]
  have hn := inB_iff.1 c
  have e := bytesOf_strOf l hb
  have e2 : (strOfNums l).size = l.length := strOfNums_size l
  have hp := impl_addText.sp (d := d) (by omega) (l := [] ++ uM n) (s := numsStr l) (by have := uM_len n; simp; omega) (by rw [e2]; omega)
  refine tc (impl_addU.sp (by omega) (by simp)) (tc hp (tc (impl_addSum.sp (by omega) ?_ ?_) (tl ?_)))
  · have h1 := uM_len n
    have h3 := txtM_len (numsStr l)
    rw [e2] at h3
    simp only [List.length_append, List.length_nil]; omega
  · exact app_bytes (app_bytes (by simp) (uM_bytes n)) (txtM_bytes _)
  · unfold pageBody txtM
    rw [e2, e]
    simp
theorem impl_PutSum.sp {d : Nat} (hd : 3 ≤ d) {l : List Int} (hl : l.length ≤ 1000000000) (hb : ∀ b ∈ l, 0 ≤ b ∧ b ≤ 255) : impl_PutSum.f d l = some (l ++ sum4 (crcM l)) := by
  obtain ⟨d, rfl, _⟩ := dep hd
  rw [impl_PutSum.t_eq]
  dsimp only [impl_PutSum.m]
  exact Tells.eq (tc (impl_copyBytes.sp (by omega) (by omega)) (tc (impl_addSum.sp (by omega) (by omega) hb) (tl rfl)))
theorem impl_GetU.sp {d : Nat} (hd : 1 ≤ d) {b : List Int} {at_ : Nat} (hl : b.length ≤ 1000000000) (ha : at_ ≤ 1000000000) (hb : ∀ x ∈ b, 0 ≤ x ∧ x ≤ 255) : impl_GetU.f d (b, (at_ : Int)) = some (tripU at_ (getUM (b.drop at_))) := by
  obtain ⟨d, rfl, _⟩ := dep hd
  rw [impl_GetU.t_eq]
  dsimp only [impl_GetU.m]
  refine Tells.eq ?_
  refine loop0 (σ := Int) (impl_GetU.S0 d) 3 (fun v i => (b, (at_ : Int), v, i)) (fun v i => 0 ≤ v ∧ v < 128 ^ i) (fun v i r => r = tripU at_ (getUR (3 - i) i v (b.drop (at_ + i)))) 0 (by omega) ⟨by omega, by simp⟩ ?_ ?_
  · rintro L v ⟨h0, h1⟩
    dsimp only [impl_GetU.S0, impl_GetU.s0]
    exact tn (by omega) (tl rfl)
  · rintro L v i ⟨h0, h1⟩ hi ih
    have w1 : IntKind.i64.wrap ((at_ : Int) + i) = ((at_ + i : Nat) : Int) := by rw [wrap_id (by omega) (by omega)]; omega
    obtain ⟨k, hk⟩ : ∃ k, 3 - i = k + 1 := ⟨2 - i, by omega⟩
    have hk2 : 3 - (i + 1) = k := by omega
    rw [hk2] at ih
    rw [hk]
    dsimp only [impl_GetU.S0, impl_GetU.s0]
    rw [w1, wrap_id (x := (b.length : Int) - i) (by omega) (by omega)]
    refine tp (by omega) (tp (by omega) ?_)
    by_cases c : at_ + i < b.length
    · have hd := drop_at c
      have hx0 := hb _ (List.getElem_mem c)
      rw [hd, getD_in c]
      generalize b[at_ + i] = x at hx0
      rw [wrap_id (x := x) (by omega) (by omega), wrap_id (x := 7 * (i : Int)) (by omega) (by omega), wrap_succ (by omega), Int.tmod_eq_emod_of_nonneg (by omega), show IntKind.wrap IntKind.i64 (x % 128 * 2 ^ (min (Int.toNat (7 * (i : Int))) (IntKind.bits IntKind.i64))) = x % 128 * 128 ^ i from shl_at (x % 128) i (by omega) (by omega) (by omega)]
      have BD := grp_bd i (by omega) (x % 128) v (by omega) (by omega) h0 h1
      have w4 : IntKind.i64.wrap (((at_ + i : Nat) : Int) + 1) = ((at_ + (i + 1) : Nat) : Int) := by rw [wrap_id (by omega) (by omega)]; omega
      have B1 := BD.1
      have B3 := BD.2.2.1
      have B2 := BD.2.1
      clear BD h1
      rw [wrap_id (x := v + x % 128 * 128 ^ i) (by omega) (by omega), w4]
      refine tp (by omega) (ti c (tp (by decide) (tp (by omega) (tif (fun g => ?_) fun g => ?_))))
      · rw [getUR, if_pos (by omega)]
        rw [show x % 128 = x - 128 by omega] at B1 B2 ⊢
        exact ih _ ⟨B1, B2⟩
      · rw [getUR, if_neg (by omega)]
        rw [show x % 128 = x by omega] at B1 B2 B3 ⊢
        refine tbif (fun g2 => ?_) fun g2 => ?_
        · have e0 : x = 0 := by simpa using g2
          refine tif (fun g3 => tl ?_) fun g3 => tif (fun g4 => tl ?_) fun g4 => tl ?_
          · rw [if_pos ⟨e0, by omega⟩]; rfl
          · rw [if_neg (fun h => g3 (by omega)), if_pos g4]; rfl
          · rw [if_neg (fun h => g3 (by omega)), if_neg g4]; rfl
        · have e0 : x ≠ 0 := by simpa using g2
          refine tif (fun g4 => tl ?_) fun g4 => tl ?_
          · rw [if_neg (fun h => e0 h.1), if_pos g4]; rfl
          · rw [if_neg (fun h => e0 h.1), if_neg g4]; rfl
    · rw [List.drop_eq_nil_of_le (by omega), getUR]
      exact tn (by omega) (tl rfl)
theorem spec_GetU.sp {d : Nat} (hd : 1 ≤ d) {b : List Int} {at_ : Nat} (hl : b.length ≤ 1000000000) (ha : at_ ≤ 1000000000) (hb : ∀ x ∈ b, 0 ≤ x ∧ x ≤ 255) : spec_GetU.f d (b, (at_ : Int)) = some (tripU at_ (getUM (b.drop at_))) := by
  obtain ⟨d, rfl, _⟩ := dep hd
  rw [spec_GetU.t_eq]
  dsimp only [spec_GetU.m]
  refine Tells.eq ?_
  refine loop0 (σ := Int) (spec_GetU.S0 d) 3 (fun v i => (b, (at_ : Int), v, i)) (fun v i => 0 ≤ v ∧ v < 128 ^ i) (fun v i r => r = tripU at_ (getUR (3 - i) i v (b.drop (at_ + i)))) 0 (by omega) ⟨by omega, by simp⟩ ?_ ?_
  · rintro L v ⟨h0, h1⟩
    dsimp only [spec_GetU.S0, spec_GetU.s0]
    exact tn (by omega) (tl rfl)
  · rintro L v i ⟨h0, h1⟩ hi ih
    have w1 : IntKind.i64.wrap ((at_ : Int) + i) = ((at_ + i : Nat) : Int) := by rw [wrap_id (by omega) (by omega)]; omega
    obtain ⟨k, hk⟩ : ∃ k, 3 - i = k + 1 := ⟨2 - i, by omega⟩
    have hk2 : 3 - (i + 1) = k := by omega
    rw [hk2] at ih
    rw [hk]
    dsimp only [spec_GetU.S0, spec_GetU.s0]
    rw [w1]
    refine tp (by omega) (tp (by omega) ?_)
    by_cases c : at_ + i < b.length
    · have hd := drop_at c
      have hx0 := hb _ (List.getElem_mem c)
      rw [hd, getD_in c]
      generalize b[at_ + i] = x at hx0
      have w7 : IntKind.wrap IntKind.u64 (IntKind.wrap IntKind.i64 (7 * (i : Int))) = 7 * (i : Int) := by rw [wrap_id (by omega) (by omega), show 7 * (i : Int) = ((7 * i : Nat) : Int) by omega, wrap_u64 (by omega)]
      rw [wrap_id (x := x) (by omega) (by omega), w7, wrap_succ (by omega), show IntKind.wrap IntKind.i64 ((BitVec.ofInt (IntKind.bits IntKind.i64) x &&& BitVec.ofInt (IntKind.bits IntKind.i64) (127 : Int)).toNat : Int) = x % 128 from and127 x (by omega) (by omega),
        show IntKind.wrap IntKind.i64 (x % 128 * 2 ^ (min (Int.toNat (7 * (i : Int))) (IntKind.bits IntKind.i64))) = x % 128 * 128 ^ i from shl_at (x % 128) i (by omega) (by omega) (by omega),
        show IntKind.wrap IntKind.i64 ((BitVec.ofInt (IntKind.bits IntKind.i64) v ||| BitVec.ofInt (IntKind.bits IntKind.i64) (x % 128 * 128 ^ i)).toNat : Int) = v + x % 128 * 128 ^ i from or_grp i (by omega) (x % 128) v (by omega) (by omega) h0 h1]
      have BD := grp_bd i (by omega) (x % 128) v (by omega) (by omega) h0 h1
      have w4 : IntKind.i64.wrap (((at_ + i : Nat) : Int) + 1) = ((at_ + (i + 1) : Nat) : Int) := by rw [wrap_id (by omega) (by omega)]; omega
      have B1 := BD.1
      have B2 := BD.2.1
      clear BD h1
      rw [w4]
      refine tp (by omega) (tp (by omega) (ti c (tp (by omega) (tif (fun g => ?_) fun g => ?_))))
      · rw [getUR, if_pos g]
        rw [show x % 128 = x - 128 by omega] at B1 B2 ⊢
        exact ih _ ⟨B1, B2⟩
      · rw [getUR, if_neg g]
        rw [show x % 128 = x by omega]
        refine tif (fun g2 => tbif (fun g3 => tl ?_) fun g3 => ?_) fun g2 => ?_
        · have e0 : x = 0 := by simpa using g3
          rw [if_pos ⟨e0, by omega⟩]; rfl
        · have e0 : x ≠ 0 := by simpa using g3
          refine tif (fun g4 => tl ?_) fun g4 => tl ?_
          · rw [if_neg (fun h => e0 h.1), if_pos g4]; rfl
          · rw [if_neg (fun h => e0 h.1), if_neg g4]; rfl
        · refine tif (fun g4 => tl ?_) fun g4 => tl ?_
          · rw [if_neg (fun h => g2 (by omega)), if_pos g4]; rfl
          · rw [if_neg (fun h => g2 (by omega)), if_neg g4]; rfl
    · rw [List.drop_eq_nil_of_le (by omega), getUR]
      refine tif (fun _ => ?_) fun _ => tl rfl
      exact tn (by omega) (tl rfl)
theorem text_tail {b : List Int} {at_ c : Nat} {n : Int} (hl : b.length ≤ 1000000000) (n0 : 0 ≤ n) (n1 : n ≤ 1000000) (cl : c ≤ (b.drop at_).length) (hat : at_ ≤ b.length) :
    Tells (bif decide (n > IntKind.wrap IntKind.i64 ((b.length : Int) - ((at_ + c : Nat) : Int))) then some (({ data := #[] } : ByteArray), (0 : Int), false)
      else bif decide ((0 : Int) ≤ ((at_ + c : Nat) : Int)) && decide (((at_ + c : Nat) : Int) ≤ IntKind.wrap IntKind.i64 (((at_ + c : Nat) : Int) + n)) && decide (IntKind.wrap IntKind.i64 (((at_ + c : Nat) : Int) + n) ≤ (b.length : Int)) then
        some (numsStr (List.drop (Int.toNat ((at_ + c : Nat) : Int)) (List.take (Int.toNat (IntKind.wrap IntKind.i64 (((at_ + c : Nat) : Int) + n))) b)), IntKind.wrap IntKind.i64 (((at_ + c : Nat) : Int) + n), true)
      else none) (· = tripT at_ (if n > ((b.drop at_).length : Int) - c then none else some (strOfNums (((b.drop at_).drop c).take n.toNat), c + n.toNat))) := by
  rw [List.length_drop] at cl ⊢
  rw [wrap_id (x := (b.length : Int) - ((at_ + c : Nat) : Int)) (by omega) (by omega), wrap_id (x := ((at_ + c : Nat) : Int) + n) (by omega) (by omega)]
  refine tif (fun g => tl ?_) fun g => ?_
  · rw [if_pos (show n > ((b.length - at_ : Nat) : Int) - c by omega)]; rfl
  · rw [if_neg (show ¬ n > ((b.length - at_ : Nat) : Int) - c by omega)]
    refine tt (by rw [decide_eq_true (by omega), decide_eq_true (by omega), decide_eq_true (by omega)]; rfl) (tl ?_)
    have e : (((at_ + c : Nat) : Int) + n).toNat = at_ + c + n.toNat := by omega
    rw [e, Int.toNat_natCast, List.drop_take, List.drop_drop]
    simp only [tripT]
    rw [show at_ + c + n.toNat - (at_ + c) = n.toNat by omega, show ((at_ + (c + n.toNat) : Nat) : Int) = ((at_ + c : Nat) : Int) + n by omega]
theorem impl_GetText.sp {d : Nat} (hd : 2 ≤ d) {b : List Int} {at_ : Nat} (hl : b.length ≤ 1000000000) (ha : at_ ≤ b.length) (hb : ∀ x ∈ b, 0 ≤ x ∧ x ≤ 255) : impl_GetText.f d (b, (at_ : Int)) = some (tripT at_ (getTextM (b.drop at_))) := by
  obtain ⟨d, rfl, _⟩ := dep hd
  rw [impl_GetText.t_eq]
  dsimp only [impl_GetText.m]
  have hbd : ∀ x ∈ b.drop at_, 0 ≤ x ∧ x ≤ 255 := fun x hx => hb x (List.mem_of_mem_drop hx)
  refine Tells.eq (tc (impl_GetU.sp (by omega) hl (by omega) hb) ?_)
  unfold getTextM
  cases hg : getUM (b.drop at_) with
  | none => exact tt rfl (tl rfl)
  | some p =>
    obtain ⟨n, c⟩ := p
    obtain ⟨n0, n1, cl, c1, _, _⟩ := getUM_exact hbd hg
    exact tf rfl (text_tail hl n0 n1 cl ha)
theorem spec_GetText.sp {d : Nat} (hd : 2 ≤ d) {b : List Int} {at_ : Nat} (hl : b.length ≤ 1000000000) (ha : at_ ≤ b.length) (hb : ∀ x ∈ b, 0 ≤ x ∧ x ≤ 255) : spec_GetText.f d (b, (at_ : Int)) = some (tripT at_ (getTextM (b.drop at_))) := by
  obtain ⟨d, rfl, _⟩ := dep hd
  rw [spec_GetText.t_eq]
  dsimp only [spec_GetText.m]
  have hbd : ∀ x ∈ b.drop at_, 0 ≤ x ∧ x ≤ 255 := fun x hx => hb x (List.mem_of_mem_drop hx)
  refine Tells.eq (tc (spec_GetU.sp (by omega) hl (by omega) hb) ?_)
  unfold getTextM
  cases hg : getUM (b.drop at_) with
  | none => exact tt rfl (tl rfl)
  | some p =>
    obtain ⟨n, c⟩ := p
    obtain ⟨n0, n1, cl, c1, _, _⟩ := getUM_exact hbd hg
    exact tf rfl (text_tail hl n0 n1 cl ha)
theorem toList_beq {a b : List Int} (ha : ∀ x ∈ a, 0 ≤ x ∧ x ≤ 255) (hb : ∀ x ∈ b, 0 ≤ x ∧ x ≤ 255) : ((numsStr a).toList == (numsStr b).toList) = decide (a = b) := by
  rw [Bool.eq_iff_iff, beq_iff_eq, decide_eq_true_iff]
  exact strOf_eq ha hb
theorem impl_GetSum.sp {d : Nat} (hd : 4 ≤ d) {b : List Int} (hl : b.length ≤ 1000000000) (hb : ∀ x ∈ b, 0 ≤ x ∧ x ≤ 255) : impl_GetSum.f d b = some (getSumM b) := by
  obtain ⟨d, rfl, _⟩ := dep hd
  rw [impl_GetSum.t_eq]
  dsimp only [impl_GetSum.m]
  unfold getSumM
  refine Tells.eq (tif (fun g => tl (by rw [if_pos (by omega)])) fun g => ?_)
  rw [if_neg (by omega), wrap_id (by omega) (by omega), show ((b.length : Int) - 4).toNat = b.length - 4 by omega]
  have hbt : ∀ x ∈ b.take (b.length - 4), 0 ≤ x ∧ x ≤ 255 := fun x hx => hb x (List.mem_of_mem_take hx)
  have lt : (b.take (b.length - 4)).length ≤ 1000000000 := by rw [List.length_take]; omega
  refine tt (by rw [decide_eq_true (by omega), decide_eq_true (by omega), decide_eq_true (by omega)]; rfl) ?_
  refine tc (impl_copyBytes.sp (by omega) (by simpa using by omega)) (tc (impl_PutSum.sp (by omega) (by simpa using lt) (by simpa using hbt)) ?_)
  simp only [Int.toNat_zero, List.drop_zero]
  rw [toList_beq (app_bytes hbt (sum4_bytes _)) hb]
  have e : b.take (b.length - 4) ++ sum4 (crcM (b.take (b.length - 4))) = b ↔ b.drop (b.length - 4) = sum4 (crcM (b.take (b.length - 4))) := by
    constructor
    · intro h
      have h2 : b.take (b.length - 4) ++ sum4 (crcM (b.take (b.length - 4))) = b.take (b.length - 4) ++ b.drop (b.length - 4) := by rw [h, List.take_append_drop]
      exact (List.append_cancel_left h2).symm
    · intro h
      rw [← h, List.take_append_drop]
  by_cases h : b.take (b.length - 4) ++ sum4 (crcM (b.take (b.length - 4))) = b
  · rw [decide_eq_true h, if_pos (e.1 h)]; exact tf rfl (tl rfl)
  · rw [decide_eq_false h, if_neg (fun h2 => h (e.2 h2))]; exact tt rfl (tl rfl)
theorem spec_GetSum.sp {d : Nat} (hd : 2 ≤ d) {b : List Int} (hl : b.length ≤ 1000000000) (hb : ∀ x ∈ b, 0 ≤ x ∧ x ≤ 255) : spec_GetSum.f d b = some (getSumM b) := by
  obtain ⟨d, rfl, _⟩ := dep hd
  rw [spec_GetSum.t_eq]
  dsimp only [spec_GetSum.m]
  unfold getSumM
  rw [wrap_id (by omega) (by omega)]
  refine Tells.eq (tif (fun g => tl (by rw [if_pos (by omega)])) fun g => ?_)
  rw [if_neg (by omega)]
  have hbt : ∀ x ∈ b.take (b.length - 4), 0 ≤ x ∧ x ≤ 255 := fun x hx => hb x (List.mem_of_mem_take hx)
  have hbd : ∀ x ∈ b.drop (b.length - 4), 0 ≤ x ∧ x ≤ 255 := fun x hx => hb x (List.mem_of_mem_drop hx)
  have l4 : (b.drop (b.length - 4)).length = 4 := by rw [List.length_drop]; omega
  have e0 : (b.length : Int) - 4 = ((b.length - 4 : Nat) : Int) := by omega
  have key : Tells (iter (spec_GetSum.S0 d) rnds (b, ((b.length - 4 : Nat) : Int), (0 : Int), ((b.length - 4 : Nat) : Int))) (· = if foldB 0 (b.drop (b.length - 4)) = crcM (b.take (b.length - 4)) then (b.take (b.length - 4), true) else (([] : List Int), false)) := by
    have h := loop0 (σ := Int) (spec_GetSum.S0 d) 4 (fun v i => (b, ((b.length - 4 : Nat) : Int), v, ((b.length - 4 : Nat) : Int) + i)) (fun v i => v = foldB 0 ((b.drop (b.length - 4)).take i)) (fun _ _ r => r = if foldB 0 (b.drop (b.length - 4)) = crcM (b.take (b.length - 4)) then (b.take (b.length - 4), true) else (([] : List Int), false)) 0 (by omega) rfl ?_ ?_
    · simpa using h
    · rintro L v rfl
      dsimp only [spec_GetSum.S0, spec_GetSum.s0]
      rw [show (b.drop (b.length - 4)).take 4 = b.drop (b.length - 4) from List.take_of_length_le (by omega)]
      refine tn (by omega) (tt (by rw [decide_eq_true (by omega), decide_eq_true (by omega), decide_eq_true (by omega)]; rfl) ?_)
      simp only [Int.toNat_zero, List.drop_zero, Int.toNat_natCast]
      refine tc (spec_Crc.sp (by omega) (by rw [List.length_take]; omega) hbt) (tbif (fun h => tl ?_) fun h => ?_)
      · rw [if_neg (by simpa using h)]
      · rw [if_pos (by simpa using h)]
        refine tt (by rw [decide_eq_true (by omega), decide_eq_true (by omega), decide_eq_true (by omega)]; rfl) (tp ?_ (tl (by simp)))
        simp only [List.length_nil, List.length_take]; omega
    · rintro L v i rfl hi ih
      have hx : b.length - 4 + i < b.length := by omega
      have bx := hb _ (List.getElem_mem hx)
      have hf := foldB_bd ((b.drop (b.length - 4)).take i) fun x hx => hbd x (List.mem_of_mem_take hx)
      have hlt : ((b.drop (b.length - 4)).take i).length ≤ 3 := by rw [List.length_take]; omega
      have hpow : (256 : Int) ^ ((b.drop (b.length - 4)).take i).length ≤ 16777216 := by
        generalize ((b.drop (b.length - 4)).take i).length = m at hlt
        have : m = 0 ∨ m = 1 ∨ m = 2 ∨ m = 3 := by omega
        rcases this with rfl | rfl | rfl | rfl <;> decide
      have hb3 : foldB 0 ((b.drop (b.length - 4)).take i) < 16777216 := Int.lt_of_lt_of_le hf.2 hpow
      have hf0 := hf.1
      clear hpow hf
      dsimp only [spec_GetSum.S0, spec_GetSum.s0]
      have ei : ((b.length - 4 : Nat) : Int) + (i : Int) = ((b.length - 4 + i : Nat) : Int) := by omega
      rw [ei, getD_in hx, wrap_succ (by omega), wrap_id (x := b[b.length - 4 + i]) (by omega) (by omega)]
      have e8 : IntKind.wrap IntKind.i64 (foldB 0 ((b.drop (b.length - 4)).take i) * 2 ^ (min (Int.toNat (8 : Int)) (IntKind.bits IntKind.i64))) = foldB 0 ((b.drop (b.length - 4)).take i) * 256 := by
        rw [show min (Int.toNat (8 : Int)) (IntKind.bits IntKind.i64) = 8 from rfl, show (2 : Int) ^ 8 = 256 from rfl, wrap_id (by omega) (by omega)]
      rw [e8, show IntKind.wrap IntKind.i64 ((BitVec.ofInt (IntKind.bits IntKind.i64) (foldB 0 ((b.drop (b.length - 4)).take i) * 256) ||| BitVec.ofInt (IntKind.bits IntKind.i64) b[b.length - 4 + i]).toNat : Int) = foldB 0 ((b.drop (b.length - 4)).take i) * 256 + b[b.length - 4 + i] from or_byte _ _ hf0 (by omega) bx.1 (by omega)]
      refine tp (by omega) (tp (by decide) (ti hx ?_))
      rw [show ((b.length - 4 + i + 1 : Nat) : Int) = ((b.length - 4 : Nat) : Int) + ((i + 1 : Nat) : Int) by omega]
      refine ih _ ?_
      have hi4 : i < (b.drop (b.length - 4)).length := by omega
      rw [List.take_add_one, List.getElem?_eq_getElem hi4, Option.toList_some, foldB_snoc, List.getElem_drop]
  rw [e0]
  refine key.mono fun r hr => ?_
  rw [hr]
  have hc := crcM_bd (b.take (b.length - 4)) fun x hx => (hbt x hx).2
  by_cases c : b.drop (b.length - 4) = sum4 (crcM (b.take (b.length - 4)))
  · rw [if_pos c, c, fold_sum4 _ hc.1 hc.2, if_pos rfl]
  · rw [if_neg c, if_neg]
    intro h2
    exact c (by rw [← h2, sum4_fold l4 hbd])
theorem sum_true {b body : List Int} (h : getSumM b = (body, true)) : 4 ≤ b.length ∧ b = body ++ sum4 (crcM body) ∧ body = b.take (b.length - 4) := by
  unfold getSumM at h
  by_cases h4 : b.length < 4
  · rw [if_pos h4] at h; cases h
  · rw [if_neg h4] at h
    split at h
    · rename_i h1
      simp only [Prod.mk.injEq, and_true] at h
      subst h
      exact ⟨by omega, by rw [← h1, List.take_append_drop], rfl⟩
    · cases h
theorem page_back {b body : List Int} {n : Int} {c c2 : Nat} {s : ByteArray} (hb : ∀ x ∈ b, 0 ≤ x ∧ x ≤ 255) (hs : getSumM b = (body, true)) (hu : getUM body = some (n, c)) (ht : getTextM (body.drop c) = some (s, c2)) :
    pageM n (strNums s) = b ↔ c + c2 = body.length ∧ inB n 1 2 = true ∧ s.size ≤ 240 := by
  obtain ⟨h4, e, et⟩ := sum_true hs
  have hbt : ∀ x ∈ body, 0 ≤ x ∧ x ≤ 255 := fun x hx => hb x (by rw [e]; simp [hx])
  obtain ⟨n0, n1, cl, c1, u1, u2⟩ := getUM_exact hbt hu
  have hbd : ∀ x ∈ body.drop c, 0 ≤ x ∧ x ≤ 255 := fun x hx => hbt x (List.mem_of_mem_drop hx)
  obtain ⟨t1, t2, t3⟩ := getTextM_exact hbd ht
  have hsz : (strNums s).length = s.size := bytesOf_length s
  have ulen : (uM n).length = c := by rw [u1, List.length_take]; omega
  rw [List.length_drop] at t1
  unfold pageM
  constructor
  · intro h
    by_cases hc : inB n 1 2 = true ∧ (strNums s).length ≤ 240
    · rw [if_pos hc] at h
      rw [hsz] at hc
      have hbody : body = pageBody n (strNums s) := by
        have h2 : body ++ sum4 (crcM body) = pageBody n (strNums s) ++ sum4 (crcM (pageBody n (strNums s))) := by rw [← e, h]
        exact (List.append_inj' h2 rfl).1
      have hd : body.drop c = txtM s ++ [] := by
        rw [hbody, ← ulen]
        unfold pageBody txtM
        rw [hsz, List.append_assoc, List.drop_left, List.append_nil]
      rw [hd, getTextM_put s (by omega)] at ht
      simp only [Option.some.injEq, Prod.mk.injEq, true_and] at ht
      refine ⟨?_, hc⟩
      have := congrArg List.length hd
      rw [List.length_drop, List.append_nil] at this
      omega
    · rw [if_neg hc] at h
      rw [← h] at h4
      simp at h4
  · rintro ⟨h1, h2, h3⟩
    rw [if_pos ⟨h2, by omega⟩]
    have hd : (body.drop c).drop c2 = [] := List.drop_eq_nil_of_le (by rw [List.length_drop]; omega)
    rw [hd, List.append_nil] at t2
    have : body = pageBody n (strNums s) := by
      conv => lhs; rw [u2, t2]
      unfold pageBody txtM
      rw [hsz, List.append_assoc]
    rw [← this]
    exact e.symm
def pageOf (body : List Int) (ok : Bool) : Int × List Int × Bool := match getUM body with
  | some (n, c) => (match getTextM (body.drop c) with
    | some (s, c2) => if ok = true ∧ c + c2 = body.length ∧ inB n 1 2 = true ∧ s.size ≤ 240 then (n, strNums s, true) else (0, [], false)
    | none => (0, [], false))
  | none => (0, [], false)
def getPageM (b : List Int) : Int × List Int × Bool := pageOf (getSumM b).1 (getSumM b).2
theorem pageOf_none {body : List Int} {ok : Bool} (h : getUM body = none) : pageOf body ok = (0, [], false) := by unfold pageOf; rw [h]
theorem pageOf_no {body : List Int} {ok : Bool} {n : Int} {c : Nat} (h : getUM body = some (n, c)) (h2 : getTextM (body.drop c) = none) : pageOf body ok = (0, [], false) := by unfold pageOf; rw [h]; simp only [h2]
theorem pageOf_some {body : List Int} {ok : Bool} {n : Int} {c c2 : Nat} {s : ByteArray} (h : getUM body = some (n, c)) (h2 : getTextM (body.drop c) = some (s, c2)) :
    pageOf body ok = if ok = true ∧ c + c2 = body.length ∧ inB n 1 2 = true ∧ s.size ≤ 240 then (n, strNums s, true) else (0, [], false) := by unfold pageOf; rw [h]; simp only [h2]
theorem getSumM_len (b : List Int) : (getSumM b).1.length ≤ b.length := by
  unfold getSumM
  split
  · simp
  · split
    · simp only [List.length_take]; omega
    · simp
theorem getSumM_bytes {b : List Int} (hb : ∀ x ∈ b, 0 ≤ x ∧ x ≤ 255) : ∀ x ∈ (getSumM b).1, 0 ≤ x ∧ x ≤ 255 := by
  unfold getSumM
  split
  · intro x hx; cases hx
  · split
    · intro x hx; exact hb x (List.mem_of_mem_take hx)
    · intro x hx; cases hx
theorem pageOf_false {body : List Int} : pageOf body false = (0, [], false) := by
  unfold pageOf
  split
  · split
    · rw [if_neg (by simp)]
    · rfl
  · rfl
theorem spec_GetPage.sp {d : Nat} (hd : 3 ≤ d) {b : List Int} (hl : b.length ≤ 1000000000) (hb : ∀ x ∈ b, 0 ≤ x ∧ x ≤ 255) : spec_GetPage.f d b = some (getPageM b) := by
  obtain ⟨d, rfl, _⟩ := dep hd
  rw [spec_GetPage.t_eq]
  dsimp only [spec_GetPage.m]
  have hlen := getSumM_len b
  have hbb := getSumM_bytes hb
  unfold getPageM
  refine Tells.eq (tc (spec_GetSum.sp (by omega) hl hb) ?_)
  revert hlen hbb
  generalize getSumM b = S
  obtain ⟨body, ok⟩ := S
  intro hlen hbb
  simp only at hlen hbb ⊢
  have hu := spec_GetU.sp (d := d) (b := body) (at_ := 0) (by omega) (by omega) (by omega) hbb
  rw [List.drop_zero] at hu
  refine tc hu ?_
  cases hg : getUM body with
  | none =>
    have ht := spec_GetText.sp (d := d) (b := body) (at_ := 0) (by omega) (by omega) (by omega) hbb
    rw [pageOf_none hg]
    refine tc ht ?_
    cases ok with
    | false => exact tt rfl (tl rfl)
    | true => exact tf rfl (tt rfl (tl rfl))
  | some p =>
    obtain ⟨n, c⟩ := p
    obtain ⟨n0, n1, cl, c1, _, _⟩ := getUM_exact hbb hg
    have ht := spec_GetText.sp (d := d) (b := body) (at_ := 0 + c) (by omega) (by omega) (by omega) hbb
    refine tc ht ?_
    rw [Nat.zero_add]
    cases ok with
    | false => rw [pageOf_false]; exact tt rfl (tl rfl)
    | true =>
      refine tf rfl (tf rfl ?_)
      cases hx : getTextM (body.drop c) with
      | none => rw [pageOf_no hg hx]; exact tt rfl (tl rfl)
      | some q =>
        obtain ⟨s, c2⟩ := q
        rw [pageOf_some hg hx]
        refine tf rfl ?_
        simp only [tripT, tripU]
        refine tbif (fun h => tl ?_) fun h => ?_
        · rw [if_neg]
          rintro ⟨_, h1, _⟩
          rw [h1] at h; simp at h
        · have h0 : ((c + c2 : Nat) : Int) = (body.length : Int) := by simpa using h
          refine tc (spec_l1In.sp (by omega) _ _ _) (tbif (fun h2 => tl ?_) fun h2 => tif (fun h3 => tl ?_) fun h3 => tl ?_)
          · simp only [Bool.not_eq_true'] at h2
            rw [if_neg]
            rintro ⟨_, _, h5, _⟩
            rw [h5] at h2; cases h2
          · rw [if_neg]
            rintro ⟨_, _, _, h5⟩
            omega
          · simp only [Bool.not_eq_false'] at h2
            rw [if_pos ⟨trivial, by omega, h2, by omega⟩]
theorem impl_GetPage.sp {d : Nat} (hd : 5 ≤ d) {b : List Int} (hl : b.length ≤ 1000000000) (hb : ∀ x ∈ b, 0 ≤ x ∧ x ≤ 255) : impl_GetPage.f d b = some (getPageM b) := by
  obtain ⟨d, rfl, _⟩ := dep hd
  rw [impl_GetPage.t_eq]
  dsimp only [impl_GetPage.m]
  have hlen := getSumM_len b
  have hbb := getSumM_bytes hb
  unfold getPageM
  refine Tells.eq (tc (impl_GetSum.sp (by omega) hl hb) ?_)
  cases hS : getSumM b with
  | mk body ok =>
  rw [hS] at hlen hbb
  simp only at hlen hbb ⊢
  have hu := impl_GetU.sp (d := d) (b := body) (at_ := 0) (by omega) (by omega) (by omega) hbb
  rw [List.drop_zero] at hu
  refine tc hu ?_
  cases hg : getUM body with
  | none =>
    have ht := impl_GetText.sp (d := d) (b := body) (at_ := 0) (by omega) (by omega) (by omega) hbb
    rw [pageOf_none hg]
    refine tc ht ?_
    cases ok with
    | false => exact tt rfl (tl rfl)
    | true => exact tf rfl (tt rfl (tl rfl))
  | some p =>
    obtain ⟨n, c⟩ := p
    obtain ⟨n0, n1, cl, c1, _, _⟩ := getUM_exact hbb hg
    have ht := impl_GetText.sp (d := d) (b := body) (at_ := 0 + c) (by omega) (by omega) (by omega) hbb
    refine tc ht ?_
    rw [Nat.zero_add]
    cases ok with
    | false => rw [pageOf_false]; exact tt rfl (tl rfl)
    | true =>
      refine tf rfl (tf rfl ?_)
      cases hx : getTextM (body.drop c) with
      | none => rw [pageOf_no hg hx]; exact tt rfl (tl rfl)
      | some q =>
        obtain ⟨s, c2⟩ := q
        have hbd : ∀ x ∈ body.drop c, 0 ≤ x ∧ x ≤ 255 := fun x hx => hbb x (List.mem_of_mem_drop hx)
        obtain ⟨t1, t2, t3⟩ := getTextM_exact hbd hx
        rw [List.length_drop] at t1
        have hsz : (strNums s).length = s.size := bytesOf_length s
        have pb := page_back hb hS hg hx
        rw [pageOf_some hg hx]
        refine tf rfl ?_
        simp only [tripT, tripU]
        refine tif (fun h => tl ?_) fun h => ?_
        · rw [if_neg]
          rintro ⟨_, _, h5, _⟩
          have := inB_iff.1 h5
          omega
        · have hpb : ∀ x ∈ pageM n (strNums s), 0 ≤ x ∧ x ≤ 255 := by
            unfold pageM
            split
            · exact app_bytes (pageBody_bytes _ _ (bytesOf_bytes s)) (sum4_bytes _)
            · intro x hx; cases hx
          refine tc (impl_PutPage.sp (by omega) (by omega) (bytesOf_bytes s)) ?_
          rw [toList_beq hpb hb]
          by_cases hp : pageM n (strNums s) = b
          · rw [decide_eq_true hp, if_pos ⟨trivial, pb.1 hp⟩]
            exact tf rfl (tl rfl)
          · rw [decide_eq_false hp, if_neg (fun h => hp (pb.2 h.2))]
            exact tt rfl (tl rfl)
theorem getPageM_len (b : List Int) : (getPageM b).2.1.length ≤ 240 := by
  unfold getPageM pageOf
  split
  · split
    · split
      · rename_i s _ _ h
        have : (strNums s).length = s.size := bytesOf_length s
        simp only; omega
      · simp
    · simp
  · simp
theorem okBytes {b : List Int} (h : okV (.row (.one (.int .u8))) b) : ∀ x ∈ b, 0 ≤ x ∧ x ≤ 255 := fun x hx => by
  have h1 := h.2 x hx
  have e1 : IntKind.u8.min = 0 := by decide
  have e2 : IntKind.u8.max = 255 := by decide
  simp only [okC, okV, e1, e2] at h1
  exact h1
theorem and_le_nat (x : Int) (n : Nat) (hn : n < 2 ^ 62) : 0 ≤ Go.bits .and .i64 x (n : Int) ∧ Go.bits .and .i64 x (n : Int) ≤ n := by
  have e : (BitVec.ofInt IntKind.i64.bits ((n : Nat) : Int)).toNat = n := by
    rw [BitVec.ofInt_natCast, BitVec.toNat_ofNat]
    exact Nat.mod_eq_of_lt (Nat.lt_of_lt_of_le hn (Nat.pow_le_pow_right (by decide) (by decide)))
  have h : (BitVec.ofInt IntKind.i64.bits x &&& BitVec.ofInt IntKind.i64.bits ((n : Nat) : Int)).toNat ≤ n := by
    rw [BitVec.toNat_and, e]
    exact Nat.and_le_right
  have g : Go.bits .and .i64 x (n : Int) = IntKind.i64.wrap ((BitVec.ofInt IntKind.i64.bits x &&& BitVec.ofInt IntKind.i64.bits ((n : Nat) : Int)).toNat : Int) := rfl
  rw [g, IntKind.wrap_i64]
  omega
theorem low_byte (x : Int) : 0 ≤ IntKind.wrap IntKind.i64 ((BitVec.ofInt (IntKind.bits IntKind.i64) x &&& BitVec.ofInt (IntKind.bits IntKind.i64) (255 : Int)).toNat : Int) ∧ IntKind.wrap IntKind.i64 ((BitVec.ofInt (IntKind.bits IntKind.i64) x &&& BitVec.ofInt (IntKind.bits IntKind.i64) (255 : Int)).toNat : Int) ≤ 255 := and_le_nat x 255 (by decide)
/-- a cursor over bytes -/
def cur (b : List Int) (p : Int) : Prop := b.length ≤ 1048576 ∧ 0 ≤ p ∧ p ≤ b.length
theorem u8_bd (x : Int) : 0 ≤ IntKind.wrap IntKind.u8 x ∧ IntKind.wrap IntKind.u8 x ≤ 255 := by rw [IntKind.wrap_u8]; omega
theorem page_parts {n : Int} {l : List Int} (hn : inB n 1 2 = true) (hl : l.length ≤ 240) (hb : ∀ x ∈ l, 0 ≤ x ∧ x ≤ 255) :
    getUM (pageBody n l) = some (n, (uM n).length) ∧ (pageBody n l).drop (uM n).length = txtM (numsStr l) ∧ (pageBody n l).length = (uM n).length + (txtM (numsStr l)).length ∧ strNums (numsStr l) = l ∧ (numsStr l).size = l.length := by
  have h := inB_iff.1 hn
  have e2 : (strOfNums l).size = l.length := strOfNums_size l
  have e := bytesOf_strOf l hb
  have hd : (pageBody n l).drop (uM n).length = txtM (numsStr l) := by
    unfold pageBody txtM
    rw [e2, e, List.append_assoc, List.drop_left]
  refine ⟨?_, hd, ?_, e, e2⟩
  · unfold pageBody
    rw [List.append_assoc, getUM_put n (by omega) (by omega)]
  · rw [← hd, List.length_drop]
    unfold pageBody
    simp only [List.length_append]
    omega
theorem getPage_put {n : Int} {l : List Int} (hn : inB n 1 2 = true) (hl : l.length ≤ 240) (hb : ∀ x ∈ l, 0 ≤ x ∧ x ≤ 255) : getPageM (pageM n l) = (n, l, true) := by
  obtain ⟨h1, h2, h3, h4, h5⟩ := page_parts hn hl hb
  have hS : getSumM (pageM n l) = (pageBody n l, true) := by
    have ep : pageM n l = pageBody n l ++ sum4 (crcM (pageBody n l)) := by unfold pageM; rw [if_pos ⟨hn, hl⟩]
    rw [ep]
    unfold getSumM
    have l4 : (sum4 (crcM (pageBody n l))).length = 4 := rfl
    rw [if_neg (by rw [List.length_append, l4]; omega)]
    have e : (pageBody n l ++ sum4 (crcM (pageBody n l))).length - 4 = (pageBody n l).length := by rw [List.length_append, l4]; omega
    rw [e, List.take_left, List.drop_left, if_pos rfl]
  unfold getPageM
  rw [hS]
  have ht : getTextM ((pageBody n l).drop (uM n).length) = some (numsStr l, (txtM (numsStr l)).length) := by
    have := getTextM_put (numsStr l) (by omega) []
    rw [List.append_nil] at this
    rw [h2, this]
  rw [pageOf_some h1 ht, if_pos ⟨rfl, h3.symm, hn, by omega⟩, h4]
theorem getPage_cut {n : Int} {l : List Int} {k : Nat} (hn : inB n 1 2 = true) (hl : l.length ≤ 240) (hb : ∀ x ∈ l, 0 ≤ x ∧ x ≤ 255) (hk : k < (pageM n l).length) : (getPageM ((pageM n l).take k)).2.2 = false := by
  obtain ⟨h1, h2, h3, h4, h5⟩ := page_parts hn hl hb
  have ep : pageM n l = pageBody n l ++ sum4 (crcM (pageBody n l)) := by unfold pageM; rw [if_pos ⟨hn, hl⟩]
  have l4 : (sum4 (crcM (pageBody n l))).length = 4 := rfl
  have hpb := pageBody_bytes n l hb
  unfold getPageM
  cases hS : getSumM ((pageM n l).take k) with
  | mk body ok =>
  cases ok with
  | false => rw [pageOf_false]
  | true =>
    obtain ⟨g4, ge, gt⟩ := sum_true hS
    rw [List.length_take] at g4 gt
    rw [ep, List.length_append, l4] at hk
    have ebody : body = (pageBody n l).take (k - 4) := by
      rw [gt, List.take_take, ep]
      have e1 : min (min k (pageBody n l ++ sum4 (crcM (pageBody n l))).length - 4) k = k - 4 := by
        rw [List.length_append, l4]; omega
      rw [e1, List.take_append_of_le_length (by omega)]
    have hbb : ∀ x ∈ body, 0 ≤ x ∧ x ≤ 255 := fun x hx => by rw [ebody] at hx; exact hpb x (List.mem_of_mem_take hx)
    have hfull : pageBody n l = body ++ (pageBody n l).drop (k - 4) := by rw [ebody, List.take_append_drop]
    have hrest : 0 < ((pageBody n l).drop (k - 4)).length := by rw [List.length_drop]; omega
    unfold pageOf
    split
    · rename_i n' c' hu
      split
      · rename_i s c2 ht
        split
        · rename_i hc
          exfalso
          obtain ⟨_, hc1, hc2, hc3⟩ := hc
          simp only at hc1
          obtain ⟨n0, n1, cl, c1, u1, u2⟩ := getUM_exact hbb hu
          have hbd : ∀ x ∈ body.drop c', 0 ≤ x ∧ x ≤ 255 := fun x hx => hbb x (List.mem_of_mem_drop hx)
          obtain ⟨t1, t2, t3⟩ := getTextM_exact hbd ht
          have hd : (body.drop c').drop c2 = [] := List.drop_eq_nil_of_le (by rw [List.length_drop]; omega)
          rw [hd, List.append_nil] at t2
          rw [t2] at u2
          -- the whole body, read twice
          generalize hR : (pageBody n l).drop (k - 4) = R at hfull hrest
          have hfull2 : pageBody n l = uM n' ++ (txtM s ++ R) := by rw [hfull, u2, List.append_assoc]
          rw [hfull2, getUM_put n' n0 n1] at h1
          simp only [Option.some.injEq, Prod.mk.injEq] at h1
          obtain ⟨rfl, _⟩ := h1
          rw [hfull2, List.drop_left] at h2
          have g1 := getTextM_put s (by omega) R
          have g2 := getTextM_put (numsStr l) (by omega) []
          rw [h2, ← List.append_nil (txtM (numsStr l)), g2] at g1
          simp only [Option.some.injEq, Prod.mk.injEq] at g1
          have := congrArg List.length h2
          rw [List.length_append, ← g1.2] at this
          omega
        · rfl
      · rfl
    · rfl
theorem getPage_turned {n : Int} {l : List Int} {j : Nat} {c : Int} (hn : inB n 1 2 = true) (hl : l.length ≤ 240) (hb : ∀ x ∈ l, 0 ≤ x ∧ x ≤ 255) (hj : j < (pageM n l).length) (hc0 : 0 ≤ c) (hc : c ≤ 255) (hne : c ≠ (pageM n l)[j]) : (getPageM ((pageM n l).set j c)).2.2 = false := by
  have ep : pageM n l = pageBody n l ++ sum4 (crcM (pageBody n l)) := by unfold pageM; rw [if_pos ⟨hn, hl⟩]
  have hz : (pageBody n l ++ sum4 (crcM (pageBody n l)))[j]? = some (pageM n l)[j] := by rw [← ep]; simp [hj]
  have := getSumM_turn (pageBody n l) j c _ (pageBody_bytes n l hb) hz hc0 hc hne
  unfold getPageM
  rw [ep, this, pageOf_false]
/-- a disk's bytes are bytes -/
def dkBytes (x : Dk) : Prop := (∀ y ∈ x.1, ∀ z ∈ y, 0 ≤ z ∧ z ≤ 255) ∧ ∀ w ∈ x.2.1, ∀ z ∈ w.2, 0 ≤ z ∧ z ≤ 255
theorem dkOk.bytes {x : Dk} (h : dkOk x) : dkBytes x := ⟨fun y hy => okBytes (h.1.2 y hy), fun w hw => okBytes (h.2.1.2 w hw).2⟩
theorem readM_bytes {x : Dk} {n : Int} (h : dkBytes x) : ∀ z ∈ (readM x n).1, 0 ≤ z ∧ z ≤ 255 := by
  unfold readM
  split
  · rename_i hn
    have := inB_iff.1 hn
    have hi : n.toNat < x.1.length := by omega
    refine lastW_mem (P := fun l => ∀ z ∈ l, 0 ≤ z ∧ z ≤ 255) ?_ h.2
    rw [List.getD_eq_getElem?_getD, List.getElem?_eq_getElem hi]
    exact h.1 _ (List.getElem_mem hi)
  · intro z hz; cases hz
def pageAtM (x : Dk) (n k : Int) : List Int × Bool := if (readM x n).2 = true ∧ (getPageM (readM x n).1).2.2 = true ∧ (getPageM (readM x n).1).1 = k then ((getPageM (readM x n).1).2.1, true) else ([], false)
theorem pageAt_tail (x : Dk) (n k : Int) : Tells (bif !(readM x n).2 then some (([] : List Int), false) else bif !(getPageM (readM x n).1).2.2 then some (([] : List Int), false) else bif (getPageM (readM x n).1).1 != k then some (([] : List Int), false) else some ((getPageM (readM x n).1).2.1, true)) (· = pageAtM x n k) := by
  unfold pageAtM
  refine tbif (fun h => tl ?_) fun h => tbif (fun h2 => tl ?_) fun h2 => tbif (fun h3 => tl ?_) fun h3 => tl ?_
  · simp only [Bool.not_eq_true'] at h; rw [if_neg (fun c => by rw [c.1] at h; cases h)]
  · simp only [Bool.not_eq_true'] at h2; rw [if_neg (fun c => by rw [c.2.1] at h2; cases h2)]
  · rw [if_neg (fun c => by rw [c.2.2] at h3; simp at h3)]
  · simp only [Bool.not_eq_false'] at h h2
    rw [if_pos ⟨h, h2, by simpa using h3⟩]
theorem impl_PageAt.sp {d : Nat} (hd : 6 ≤ d) {x : Dk} (sm : dkSm x) (hb : dkBytes x) (n k : Int) : impl_PageAt.f d (x.1, x.2.1, x.2.2.1, x.2.2.2.1, x.2.2.2.2, n, k) = some (pageAtM x n k) := by
  obtain ⟨d, rfl, _⟩ := dep hd
  rw [impl_PageAt.t_eq]
  dsimp only [impl_PageAt.m]
  have hl := readM_fit (n := n) ⟨sm.1.2, sm.2.1.2⟩
  exact Tells.eq (tc (impl_ReadSec.sp (by omega) sm.fit n) (tc (impl_GetPage.sp (by omega) (by omega) (readM_bytes hb)) (pageAt_tail x n k)))
theorem spec_PageAt.sp {d : Nat} (hd : 4 ≤ d) {x : Dk} (sm : dkSm x) (hb : dkBytes x) (n k : Int) : spec_PageAt.f d (x.1, x.2.1, x.2.2.1, x.2.2.2.1, x.2.2.2.2, n, k) = some (pageAtM x n k) := by
  obtain ⟨d, rfl, _⟩ := dep hd
  rw [spec_PageAt.t_eq]
  dsimp only [spec_PageAt.m]
  have hl := readM_fit (n := n) ⟨sm.1.2, sm.2.1.2⟩
  exact Tells.eq (tc (spec_ReadSec.sp (by omega) sm.fit n) (tc (spec_GetPage.sp (by omega) (by omega) (readM_bytes hb)) (pageAt_tail x n k)))
theorem pageAtM_len (x : Dk) (n k : Int) : (pageAtM x n k).1.length ≤ 240 := by
  unfold pageAtM
  split
  · exact getPageM_len _
  · simp
theorem laws_FnExactPageAt.pure {d : Nat} (hd : 7 ≤ d) {ss : List (List Int)} {ws : List (Int × List Int)} {p : Int} {fs : List (Int × Int × Int)} {on : Bool} {n k : Int} (h1 : okV (.row (.one (.row (.one (.int .u8))))) ss) (h2 : okV (.row (.cons (.int .i64) (.one (.row (.one (.int .u8)))))) ws) (_ : okV (.int .i64) p)
    (h3 : okV (.row (.cons (.int .i64) (.cons (.int .i64) (.one (.int .i64))))) fs) (_ : okV .bool on) (_ : okV (.int .i64) n) (_ : okV (.int .i64) k) : laws_FnExactPageAt.f d (ss, ws, p, fs, on, n, k) = some true := by
  obtain ⟨d, rfl, _⟩ := dep hd
  rw [laws_FnExactPageAt.t_eq]
  dsimp only [laws_FnExactPageAt.m]
  have ok : dkOk (ss, ws, p, fs, on) := ⟨h1, h2, h3⟩
  refine Tells.eq (tb (laws_szDisk.sp (by omega) ok.fit) fun r hr => tif (fun _ => tl rfl) fun h => ?_)
  have sm := hr (by omega)
  have to := laws_toDisk.sp (d := d) (by omega) sm
  have fit := pageAtM_len (ss, ws, p, fs, on) n k
  have eq := laws_eqByteS.self (d := d) (by omega) (l := (pageAtM (ss, ws, p, fs, on) n k).1) (by omega)
  have rs := spec_PageAt.sp (d := d) (by omega) sm ok.bytes n k
  have ri := impl_PageAt.sp (d := d) (by omega) sm ok.bytes n k
  refine tc to (tc rs (tc to (tc ri (tc eq (tf rfl (tf (by simp) ?_))))))
  refine tc to (tc (laws_eqDisk.self (by omega) ok.fit) (tf rfl ?_))
  refine tb (laws_markDisk.nn (d := d) (by omega) (by omega) ok.fit (by have := sm.2.2.2; omega)) fun r9 h9 => tn (by omega) ?_
  refine tc eq (tf rfl (tf (by simp) ?_))
  refine tb (laws_markByteS.held (d := d) (d2 := d) (by omega) (by omega) (by omega) (by omega) (by omega)) fun r11 h11 => ?_
  refine tc h11.2 (tn (by omega) (tf (by simp) ?_))
  refine tc to (tc ri (tc eq (tf rfl (tf (by simp) ?_))))
  exact tc h11.2 (tn (by omega) (tf (by simp) (tl rfl)))
theorem faultsM_of : ∀ {l : List (Int × Int × Int)} {o : Option (Int × Int × Int)}, (∀ f ∈ l, fOk f = true) → l.Pairwise (fun (a b : Int × Int × Int) => a.1 < b.1) → (∀ y, o = some y → ∀ f ∈ l, y.1 < f.1) → faultsM o l = true
  | [], _, _, _, _ => rfl
  | x :: r, o, h1, h2, h3 => by
    have hr := faultsM_of (l := r) (o := some x) (fun f hf => h1 f (by simp [hf])) (List.pairwise_cons.1 h2).2 (fun y hy f hf => by
      obtain rfl := Option.some.inj hy
      exact (List.pairwise_cons.1 h2).1 f hf)
    simp only [faultsM, h1 x (by simp), Bool.true_and]
    cases o with
    | none => exact hr
    | some y =>
      have := h3 y rfl x (by simp)
      simp only [hr, Bool.and_true, Bool.not_eq_true', decide_eq_false_iff_not]
      omega
def drawnF (l : List (Int × Int × Int)) : Prop := l.length ≤ 4 ∧ faultsM none l = true
/-- a disk that was drawn -/
structure dkI (x : Dk) : Prop where
  n : 4 ≤ x.1.length ∧ x.1.length ≤ 7
  s : ∀ y ∈ x.1, y.length ≤ 9 ∧ ∀ z ∈ y, 0 ≤ z ∧ z ≤ 255
  k : x.2.1.length ≤ 60
  w : ∀ w ∈ x.2.1, 0 ≤ w.1 ∧ w.1 < x.1.length ∧ w.2.length ≤ 9 ∧ ∀ z ∈ w.2, 0 ≤ z ∧ z ≤ 255
  f : drawnF x.2.2.2.1
theorem drawnF.cut {l : List (Int × Int × Int)} (h : faultsM none l = true) : ∀ f ∈ l, 0 ≤ f.2.2 := by
  have key : ∀ (l : List (Int × Int × Int)) (o : Option (Int × Int × Int)), faultsM o l = true → ∀ f ∈ l, 0 ≤ f.2.2 := by
    intro l
    induction l with
    | nil => intro _ _ f hf; cases hf
    | cons a r ih =>
      intro o ho f hf
      simp only [faultsM, Bool.and_eq_true] at ho
      obtain ⟨ha, hr⟩ := ho
      rcases List.mem_cons.1 hf with rfl | hf
      · unfold fOk at ha
        simp only [Bool.and_eq_true] at ha
        exact (inB_iff.1 ha.2.2).1
      · cases o with
        | none => exact ih _ hr f hf
        | some y =>
          simp only [Bool.and_eq_true] at hr
          exact ih _ hr.2 f hf
  exact key l none h
theorem small_of {x : Dk} {a b c k : Nat} (h1 : x.1.length ≤ a) (h2 : ∀ y ∈ x.1, y.length ≤ k) (h3 : x.2.1.length ≤ b) (h4 : ∀ w ∈ x.2.1, w.2.length ≤ k) (h5 : x.2.2.2.1.length ≤ c) (ha : a ≤ 1000) (hb : b ≤ 1000) (hc : c ≤ 1000) (hk : k ≤ 1000) : dkSm x := by
  refine ⟨⟨by omega, fun y hy => by have := h2 y hy; omega⟩, ⟨by omega, fun y hy => by have := h4 y hy; omega⟩, by omega, ?_⟩
  unfold dkW
  have g1 := wSum_le (w := List.length) h2
  have g2 := wSum_le (w := ww) (k := k + 1) (l := x.2.1) fun y hy => by have := h4 y hy; unfold ww; omega
  have g3 := sum_three x.2.2.2.1
  have m1 : x.1.length * k ≤ 1000 * 1000 := Nat.mul_le_mul (by omega) hk
  have m2 : x.2.1.length * (k + 1) ≤ 1000 * 1001 := Nat.mul_le_mul (by omega) (by omega)
  omega
theorem dkI.sm {x : Dk} (h : dkI x) : dkSm x := small_of (a := 7) (b := 60) (c := 4) (k := 9) h.n.2 (fun y hy => (h.s y hy).1) h.k (fun w hw => (h.w w hw).2.2.1) h.f.1 (by omega) (by omega) (by omega) (by omega)
theorem dkI.good {x : Dk} (h : dkI x) (hp : -1000000000 ≤ x.2.2.1 ∧ x.2.2.1 ≤ 1000000000) : dkGood x :=
  ⟨h.sm, fun w hw => ⟨(h.w w hw).1, (h.w w hw).2.1, by have := (h.w w hw).2.2.1; omega⟩, drawnF.cut h.f.2, hp.2, hp.1⟩
theorem loseM_I {x : Dk} (h : dkI x) {m c : Int} : dkI (loseM x m c) where
  n := by unfold loseM; rw [applyW_len]; exact h.n
  s := applyW_all (P := fun y => y.length ≤ 9 ∧ ∀ z ∈ y, 0 ≤ z ∧ z ≤ 255) h.s (by
    intro w hw
    unfold cutLast at hw
    split at hw
    · cases hw
    · rename_i v hv
      have hm := keptW_mem (List.mem_of_getLast? hv)
      rcases List.mem_append.1 hw with h1 | h1
      · have := h.w w (keptW_mem (List.dropLast_subset _ h1))
        exact this.2.2
      · obtain rfl := List.mem_singleton.1 h1
        have := h.w v hm
        refine ⟨?_, fun z hz => this.2.2.2 z (List.mem_of_mem_take hz)⟩
        simp only [cutW, List.length_take]
        have := this.2.2.1
        omega)
  k := Nat.zero_le _
  w := fun w hw => by cases hw
  f := h.f
theorem pulsed_I {x : Dk} (h : dkI x) : dkI (pulsed x) := ⟨h.n, h.s, h.k, h.w, h.f⟩
theorem flushM_I {x : Dk} (h : dkI x) : dkI (flushM x).2 := by
  unfold flushM
  split
  · exact h
  · split
    · exact h
    · split
      · exact loseM_I (pulsed_I h)
      · exact ⟨by rw [applyW_len]; exact h.n, applyW_all (P := fun y => y.length ≤ 9 ∧ ∀ z ∈ y, 0 ≤ z ∧ z ≤ 255) h.s fun w hw => (h.w w hw).2.2, Nat.zero_le _, fun w hw => (by cases hw), h.f⟩
theorem flushM_p {x : Dk} {k : Int} (h : 0 ≤ x.2.2.1 ∧ x.2.2.1 ≤ k) : 0 ≤ (flushM x).2.2.2.1 ∧ (flushM x).2.2.2.1 ≤ k + 1 := by
  unfold flushM
  split
  · simp only; omega
  · split
    · simp only; omega
    · split
      · simp only [loseM, pulsed]; omega
      · simp only; omega
theorem wrote_I {x : Dk} (h : dkI x) {n : Int} {b : List Int} (hk : ¬ (x.2.1.length : Int) ≥ 60) (hn : 0 ≤ n ∧ n < x.1.length) (hb : b.length ≤ 9 ∧ ∀ z ∈ b, 0 ≤ z ∧ z ≤ 255) : dkI (wrote x n b) where
  n := h.n
  s := h.s
  k := by unfold wrote; simp only [List.length_append, List.length_singleton]; omega
  w := fun w hw => by
    rcases List.mem_append.1 hw with h1 | h1
    · exact h.w w h1
    · obtain rfl := List.mem_singleton.1 h1
      exact ⟨hn.1, hn.2, hb⟩
  f := h.f
theorem writeM_I {x : Dk} (h : dkI x) {n : Int} {b : List Int} (hn : 0 ≤ n ∧ n < x.1.length) (hb : b.length ≤ 9 ∧ ∀ z ∈ b, 0 ≤ z ∧ z ≤ 255) : dkI (writeM x n b).2 := by
  unfold writeM
  split
  · exact h
  · split
    · exact h
    · split
      · exact h
      · rename_i hk
        split
        · exact loseM_I (wrote_I h hk hn hb)
        · exact wrote_I h hk hn hb
theorem writeM_p {x : Dk} {n k : Int} {b : List Int} (h : 0 ≤ x.2.2.1 ∧ x.2.2.1 ≤ k) : 0 ≤ (writeM x n b).2.2.2.1 ∧ (writeM x n b).2.2.2.1 ≤ k + 1 := by
  unfold writeM
  split
  · simp only; omega
  · split
    · simp only; omega
    · split
      · simp only; omega
      · split
        · simp only [loseM, wrote]; omega
        · simp only [wrote]; omega
theorem newDk_I {n : Int} {fs : List (Int × Int × Int)} (hn : 4 ≤ n ∧ n ≤ 7) (hf : drawnF fs) : dkI (newDk n fs) ∧ (newDk n fs).2.2.1 = 0 := by
  unfold newDk
  have h1 : faultsOkM fs = true := by
    unfold faultsOkM
    rw [hf.2, decide_eq_true (by have := hf.1; omega)]; rfl
  rw [if_pos ⟨inB_iff.2 ⟨by omega, by omega⟩, h1⟩]
  exact ⟨⟨by simp; omega, fun y hy => by rw [(List.mem_replicate.1 hy).2]; simp, by simp, fun w hw => (by cases hw), hf⟩, rfl⟩
def curOf (r : (List (List Int)) × (List (Int × (List Int))) × Int × (List (Int × Int × Int)) × Bool × Int × Int) : Dk := (r.1, r.2.1, r.2.2.1, r.2.2.2.1, r.2.2.2.2.1)
/-- a disk that was drawn, and bent -/
structure dkV (x : Dk) : Prop where
  n : x.1.length ≤ 7
  s : ∀ y ∈ x.1, y.length ≤ 300 ∧ ∀ z ∈ y, 0 ≤ z ∧ z ≤ 255
  k : x.2.1.length ≤ 61
  w : ∀ w ∈ x.2.1, w.2.length ≤ 300 ∧ ∀ z ∈ w.2, 0 ≤ z ∧ z ≤ 255
  f : x.2.2.2.1.length ≤ 5
theorem dkV.sm {x : Dk} (h : dkV x) : dkSm x := small_of (a := 7) (b := 61) (c := 5) (k := 300) h.n (fun y hy => (h.s y hy).1) h.k (fun w hw => (h.w w hw).1) h.f (by omega) (by omega) (by omega) (by omega)
theorem dkV.bytes {x : Dk} (h : dkV x) : dkBytes x := ⟨fun y hy => (h.s y hy).2, fun w hw => (h.w w hw).2⟩
theorem dkI.v {x : Dk} (h : dkI x) : dkV x := ⟨h.n.2, fun y hy => ⟨by have := (h.s y hy).1; omega, (h.s y hy).2⟩, by have := h.k; omega, fun w hw => ⟨by have := (h.w w hw).2.2.1; omega, (h.w w hw).2.2.2⟩, by have := h.f.1; omega⟩
theorem newDk_ok (n : Int) (fs : List (Int × Int × Int)) : diskOkM (newDk n fs).1 (newDk n fs).2.1 (newDk n fs).2.2.1 (newDk n fs).2.2.2.1 (newDk n fs).2.2.2.2 = decide (((newDk n fs).1.length : Int) > 0) := by
  unfold newDk
  split
  · rename_i h
    have hn := inB_iff.1 h.1
    have h1 : (List.replicate n.toNat ([] : List Int)).all secOk = true := List.all_eq_true.2 fun x hx => by rw [(List.mem_replicate.1 hx).2]; rfl
    have h2 : ((List.replicate n.toNat ([] : List Int)).length : Int) = n := by simp; omega
    unfold diskOkM
    simp only
    rw [h1, h2, h.1, h.2]
    simp [inB]
    omega
  · rfl
theorem newDk_read {n : Int} {fs : List (Int × Int × Int)} {i : Nat} (h : i < (newDk n fs).1.length) : readM (newDk n fs) (i : Int) = ([], true) := by
  unfold readM
  rw [if_pos (inB_iff.2 ⟨by omega, by omega⟩)]
  have e : (newDk n fs).2.1 = [] := by unfold newDk; split <;> rfl
  have g : (newDk n fs).1[i] = [] := by
    have hm := List.getElem_mem h
    unfold newDk at hm ⊢
    split at hm
    · rename_i hh
      simp only [hh, and_self, if_true]
      simp
    · cases hm
  rw [e, Int.toNat_natCast, List.getD_eq_getElem?_getD, List.getElem?_eq_getElem h, g]
  rfl
theorem pageM_bytes (n : Int) {l : List Int} (hb : ∀ b ∈ l, 0 ≤ b ∧ b ≤ 255) : ∀ x ∈ pageM n l, 0 ≤ x ∧ x ≤ 255 := by
  unfold pageM
  split
  · exact app_bytes (pageBody_bytes _ _ hb) (sum4_bytes _)
  · intro x hx; cases hx
theorem pageOf_cases (body : List Int) (ok : Bool) : pageOf body ok = (0, [], false) ∨ ∃ n c s c2, getUM body = some (n, c) ∧ getTextM (body.drop c) = some (s, c2) ∧ ok = true ∧ (c + c2 = body.length ∧ inB n 1 2 = true ∧ s.size ≤ 240) ∧ pageOf body ok = (n, strNums s, true) := by
  cases hu : getUM body with
  | none => exact .inl (pageOf_none hu)
  | some p =>
    obtain ⟨n, c⟩ := p
    cases ht : getTextM (body.drop c) with
    | none => exact .inl (pageOf_no hu ht)
    | some q =>
      obtain ⟨s, c2⟩ := q
      rw [pageOf_some hu ht]
      by_cases hc : ok = true ∧ c + c2 = body.length ∧ inB n 1 2 = true ∧ s.size ≤ 240
      · rw [if_pos hc]
        exact .inr ⟨n, c, s, c2, rfl, ht, hc.1, hc.2, rfl⟩
      · rw [if_neg hc]
        exact .inl rfl
theorem getPage_false {b : List Int} (h : (getPageM b).2.2 = false) : getPageM b = (0, [], false) := by
  unfold getPageM at h ⊢
  rcases pageOf_cases (getSumM b).1 (getSumM b).2 with e | ⟨n, c, s, c2, _, _, _, _, e⟩
  · exact e
  · rw [e] at h; cases h
theorem getPage_true {b : List Int} (hb : ∀ x ∈ b, 0 ≤ x ∧ x ≤ 255) (h : (getPageM b).2.2 = true) : pageM (getPageM b).1 (getPageM b).2.1 = b := by
  unfold getPageM at h ⊢
  rcases pageOf_cases (getSumM b).1 (getSumM b).2 with e | ⟨n, c, s, c2, hu, ht, hok, hc, e⟩
  · rw [e] at h; cases h
  · rw [e]
    have hS : getSumM b = ((getSumM b).1, true) := by rw [← hok]
    exact (page_back hb hS hu ht).2 hc
theorem snocInd {α : Type} {P : List α → Prop} (h0 : P []) (h1 : ∀ l b, P l → P (l ++ [b])) (l : List α) : P l := by
  have h : ∀ l : List α, P l.reverse := by
    intro l
    induction l with
    | nil => exact h0
    | cons a r ih => rw [List.reverse_cons]; exact h1 _ _ ih
  have := h l.reverse
  rwa [List.reverse_reverse] at this
theorem applyW_last : ∀ {ws : List (Int × List Int)} {ss : List (List Int)} {i : Nat} (h : i < ss.length), (∀ w ∈ ws, 0 ≤ w.1) → (applyW ss ws)[i]'(by rw [applyW_len]; exact h) = lastW ws (i : Int) ss[i] := by
  intro ws
  refine snocInd (P := fun ws : List (Int × List Int) => ∀ {ss : List (List Int)} {i : Nat} (h : i < ss.length), (∀ w ∈ ws, 0 ≤ w.1) → (applyW ss ws)[i]'(by rw [applyW_len]; exact h) = lastW ws (i : Int) ss[i]) ?_ ?_ ws
  · intro ss i h _; rfl
  · intro ws w ih ss i h hw
    have hi : i < (applyW ss ws).length := by rw [applyW_len]; exact h
    have e : lastW (ws ++ [w]) (i : Int) ss[i] = if w.1 = (i : Int) then w.2 else lastW ws (i : Int) ss[i] := by
      have := lastW_snoc (ws := ws ++ [w]) (i := ws.length) (by simp) (n := (i : Int)) (z := ss[i])
      have e1 : (ws ++ [w]).take (ws.length + 1) = ws ++ [w] := List.take_of_length_le (by simp)
      have e2 : (ws ++ [w]).take ws.length = ws := by simp
      rw [e1, e2] at this
      simpa using this
    rw [e]
    have h0 := hw w (by simp)
    simp only [applyW_snoc, List.getElem_set]
    by_cases hc : w.1 = (i : Int)
    · rw [if_pos hc, if_pos (by omega)]
    · rw [if_neg hc, if_neg (by omega)]
      exact ih h fun v hv => hw v (by simp [hv])
theorem applyW_from : ∀ {ws : List (Int × List Int)} {ss : List (List Int)} {i : Nat} (h : i < ss.length), (∀ w ∈ ws, 0 ≤ w.1) → (applyW ss ws)[i]'(by rw [applyW_len]; exact h) = ss[i] ∨ ∃ w ∈ ws, w.1 = (i : Int) ∧ (applyW ss ws)[i]'(by rw [applyW_len]; exact h) = w.2 := by
  intro ws ss i h hw
  rw [applyW_last h hw]
  unfold lastW
  split
  · rename_i w hf
    exact .inr ⟨w, List.mem_reverse.1 (List.mem_of_find?_eq_some hf), by simpa using List.find?_some hf, rfl⟩
  · exact .inl rfl
theorem cutLast_mem {c : Int} {m : Int} {ws : List (Int × List Int)} {n : Nat} {w : Int × List Int} (h : w ∈ cutLast c (keptW m ws n)) : ∃ v ∈ ws, v.1 = w.1 ∧ w.2.length ≤ v.2.length ∧ v.2.take w.2.length = w.2 := by
  unfold cutLast at h
  split at h
  · cases h
  · rename_i v hv
    rcases List.mem_append.1 h with h1 | h1
    · exact ⟨w, keptW_mem (List.dropLast_subset _ h1), rfl, Nat.le_refl _, List.take_length⟩
    · obtain rfl := List.mem_singleton.1 h1
      refine ⟨v, keptW_mem (List.mem_of_getLast? hv), rfl, ?_, ?_⟩
      · simp only [cutW, List.length_take]; omega
      · simp only [cutW, List.length_take]
        by_cases hc : c.toNat ≤ v.2.length
        · rw [Nat.min_eq_left hc]
        · rw [Nat.min_eq_right (by omega), List.take_length, List.take_of_length_le (by omega)]
structure flushed (x : Dk) (code : Int) (F : Dk) : Prop where
  len : F.1.length = x.1.length
  cd : code = 0 ∨ code = 9
  sec : ∀ (i : Nat) (h : i < x.1.length), (F.1[i]'(by rw [len]; exact h) = x.1[i] ∧ code ≠ 0) ∨ (F.1[i]'(by rw [len]; exact h) = (readM x (i : Int)).1 ∧ code = 0) ∨
    (code = 9 ∧ ∃ (j : Nat) (hj : j < x.2.1.length), x.2.1[j].1 = (i : Int) ∧ (F.1[i]'(by rw [len]; exact h)).length ≤ x.2.1[j].2.length ∧ x.2.1[j].2.take (F.1[i]'(by rw [len]; exact h)).length = F.1[i]'(by rw [len]; exact h))
  ok : diskOkM F.1 F.2.1 F.2.2.1 F.2.2.2.1 F.2.2.2.2 = true
  why : code = 0 ∨ F.2.2.2.2 = true ∨ x.2.2.1 ≥ 100000
theorem disk_parts {x : Dk} (h : diskOkM x.1 x.2.1 x.2.2.1 x.2.2.2.1 x.2.2.2.2 = true) : (∀ y ∈ x.1, secOk y = true) ∧ (∀ w ∈ x.2.1, wrOk x.1.length w = true) ∧ inB x.1.length 4 48 = true ∧ (x.2.1.length : Int) ≤ 60 ∧ inB x.2.2.1 0 100000 = true ∧ faultsOkM x.2.2.2.1 = true := by
  unfold diskOkM at h
  simp only [Bool.and_eq_true, decide_eq_true_eq] at h
  obtain ⟨⟨⟨⟨⟨⟨h1, h2⟩, h3⟩, h4⟩, h5⟩, h6⟩, _⟩ := h
  exact ⟨List.all_eq_true.1 h1, List.all_eq_true.1 h2, h3, h4, h5, h6⟩
theorem disk_done {ss : List (List Int)} {p : Int} {fs : List (Int × Int × Int)} {on : Bool} (h1 : ∀ y ∈ ss, secOk y = true) (h3 : inB ss.length 4 48 = true) (h5 : inB p 0 100000 = true) (h6 : faultsOkM fs = true) : diskOkM ss [] p fs on = true := by
  unfold diskOkM
  rw [List.all_eq_true.2 h1, h3, h5, h6]
  cases on <;> rfl
theorem applied_ok {x : Dk} {l : List (Int × List Int)} (h : diskOkM x.1 x.2.1 x.2.2.1 x.2.2.2.1 x.2.2.2.2 = true) (hp : ¬ x.2.2.1 ≥ 100000) (hl : ∀ w ∈ l, ∃ v ∈ x.2.1, w.2.length ≤ v.2.length) (on : Bool) : diskOkM (applyW x.1 l) [] (x.2.2.1 + 1) x.2.2.2.1 on = true := by
  obtain ⟨h1, h2, h3, h4, h5, h6⟩ := disk_parts h
  have hq := inB_iff.1 h5
  refine disk_done (applyW_all (P := fun y => secOk y = true) h1 fun w hw => ?_) (by rw [applyW_len]; exact h3) (inB_iff.2 ⟨by omega, by omega⟩) h6
  obtain ⟨v, hv, hle⟩ := hl w hw
  have := h2 v hv
  unfold wrOk at this
  simp only [Bool.and_eq_true, decide_eq_true_eq] at this
  unfold secOk
  rw [decide_eq_true_eq]
  omega
theorem flush_facts {x : Dk} (sm : dkSm x) (hok : diskOkM x.1 x.2.1 x.2.2.1 x.2.2.2.1 x.2.2.2.2 = true) : flushed x (flushAll x).2.2.2.2.2 (dkOf (flushAll x)) := by
  have hg := diskOk_good sm hok
  have hw0 : ∀ w ∈ x.2.1, 0 ≤ w.1 := fun w hw => (hg.2.1 w hw).1
  have e : flushAll x = packC (flushM x) := by unfold flushAll; rw [if_pos hok]; rfl
  rw [e]
  have same : flushed x 9 x → flushed x 9 x := id
  by_cases h1 : x.2.2.2.2 = true
  · have e2 : flushM x = (9, x) := by unfold flushM; rw [if_pos h1]
    rw [e2]
    exact ⟨rfl, .inr rfl, fun i h => .inl ⟨rfl, show (9 : Int) ≠ 0 by decide⟩, hok, .inr (.inl h1)⟩
  · by_cases h2 : x.2.2.1 ≥ 100000
    · have e2 : flushM x = (9, x) := by unfold flushM; rw [if_neg h1, if_pos h2]
      rw [e2]
      exact ⟨rfl, .inr rfl, fun i h => .inl ⟨rfl, show (9 : Int) ≠ 0 by decide⟩, hok, .inr (.inr h2)⟩
    · by_cases h3 : (faultM x.2.2.2.1 x.2.2.1).2.2.2 = true
      · have e2 : flushM x = (9, loseM (pulsed x) (faultM x.2.2.2.1 x.2.2.1).2.1 (faultM x.2.2.2.1 x.2.2.1).2.2.1) := by unfold flushM; rw [if_neg h1, if_neg h2, if_pos h3]
        rw [e2]
        generalize (faultM x.2.2.2.1 x.2.2.1).2.1 = m
        generalize (faultM x.2.2.2.1 x.2.2.1).2.2.1 = c
        have hc0 : ∀ w ∈ cutLast c (keptW m x.2.1 x.2.1.length), 0 ≤ w.1 := fun w hw => by
          obtain ⟨v, hv, e, _⟩ := cutLast_mem hw
          rw [← e]; exact hw0 v hv
        refine ⟨applyW_len, .inr rfl, fun i h => ?_, applied_ok hok h2 (fun w hw => ?_) true, .inr (.inl rfl)⟩
        · have hlen : i < (applyW x.1 (cutLast c (keptW m x.2.1 x.2.1.length))).length := by rw [applyW_len]; exact h
          rcases applyW_from h hc0 with h4 | ⟨w, hw, h5, h6⟩
          · exact .inl ⟨h4, show (9 : Int) ≠ 0 by decide⟩
          · obtain ⟨v, hv, e1, e2, e3⟩ := cutLast_mem hw
            obtain ⟨j, hj, rfl⟩ := List.mem_iff_getElem.1 hv
            refine .inr (.inr ⟨rfl, j, hj, by rw [e1]; exact h5, ?_, ?_⟩)
            · show (applyW x.1 (cutLast c (keptW m x.2.1 x.2.1.length)))[i].length ≤ _
              rw [h6]; exact e2
            · show x.2.1[j].2.take (applyW x.1 (cutLast c (keptW m x.2.1 x.2.1.length)))[i].length = (applyW x.1 (cutLast c (keptW m x.2.1 x.2.1.length)))[i]
              rw [h6]; exact e3
        · obtain ⟨v, hv, _, h4, _⟩ := cutLast_mem hw
          exact ⟨v, hv, h4⟩
      · have e2 : flushM x = (0, applyW x.1 x.2.1, [], x.2.2.1 + 1, x.2.2.2.1, x.2.2.2.2) := by unfold flushM; rw [if_neg h1, if_neg h2, if_neg h3]
        rw [e2]
        refine ⟨applyW_len, .inl rfl, fun i h => .inr (.inl ⟨?_, rfl⟩), applied_ok hok h2 (fun w hw => ⟨w, hw, Nat.le_refl _⟩) _, .inl rfl⟩
        have hlen : i < (applyW x.1 x.2.1).length := by rw [applyW_len]; exact h
        show (applyW x.1 x.2.1)[i] = _
        rw [applyW_last h hw0]
        unfold readM
        rw [if_pos (inB_iff.2 ⟨by omega, by omega⟩), Int.toNat_natCast, List.getD_eq_getElem?_getD, List.getElem?_eq_getElem h]
        rfl
end Go.PV.T
