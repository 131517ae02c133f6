/- Functions of the program by their own lists and numbers. No condition beyond those in each statement. -/
import Derived.Test.YticedidmodmdnaaPvNDx2
set_option linter.unusedVariables false
namespace Go.PV.T
open Go.Proofs
/-- a row of the same length that is filled element by element -/
theorem fill_step {α : Type} {l s : List α} {i : Nat} (hl : s.length = l.length) (ht : s.take i = l.take i) (hi : i < l.length) : (s.set i l[i]).take (i + 1) = l.take (i + 1) := by
  rw [List.take_add_one, List.take_add_one, List.take_set_of_le (Nat.le_refl i), ht, List.getElem?_set_self (by omega)]
  simp [hi]
theorem in_def (a lo hi : Int) : (bif decide (a ≥ lo) then some (decide (a ≤ hi)) else some false) = some (inB a lo hi) := by
  by_cases h : lo ≤ a <;> simp [inB, h]
theorem impl_in.sp {d : Nat} (hd : 1 ≤ d) (a lo hi : Int) : impl_in.f d (a, lo, hi) = some (inB a lo hi) := by
  obtain ⟨d, rfl, hd⟩ := dep hd
  rw [impl_in.t_eq]
  exact in_def a lo hi
theorem spec_l1In.sp {d : Nat} (hd : 1 ≤ d) (a lo hi : Int) : spec_l1In.f d (a, lo, hi) = some (inB a lo hi) := by
  obtain ⟨d, rfl, hd⟩ := dep hd
  rw [spec_l1In.t_eq]
  exact in_def a lo hi
def fOk (x : Int × Int × Int) : Bool := inB x.1 0 100000 && (inB x.2.1 0 1048575 && inB x.2.2 0 256)
def faultsM : Option (Int × Int × Int) → List (Int × Int × Int) → Bool
  | _, [] => true
  | p, x :: r => fOk x && (match p with
    | none => faultsM (some x) r
    | some y => !decide (y.1 ≥ x.1) && faultsM (some x) r)
def before (fs : List (Int × Int × Int)) (i : Nat) : Option (Int × Int × Int) := if i = 0 then none else fs[i - 1]?
theorem before_succ {fs : List (Int × Int × Int)} {i : Nat} (h : i < fs.length) : before fs (i + 1) = some fs[i] := by
  unfold before
  rw [if_neg (by omega), show i + 1 - 1 = i by omega]
  simp [h]
/-- what both rounds over the faults tell -/
theorem faults_round {fs : List (Int × Int × Int)} {i : Nat} {k : Bool} {x : Option Bool} (hi : i < fs.length) (hl : fs.length ≤ 1048576) {c : Int × Int × Int → Option Bool} (hc : ∀ a lo hi, c (a, lo, hi) = some (inB a lo hi))
    (ih : Tells x (· = (faultsM (before fs (i + 1)) (fs.drop (i + 1)) && k))) (b1 b2 b3 : Bool) (h1 : b1 = true) (h2 : b2 = true) (h3 : b3 = true) :
    Tells (Option.bind (c (fs[i].1, 0, 100000)) fun r1 => bif !r1 then some false else bif b1 then
      Option.bind (c (fs[i].2.1, 0, 1048575)) fun r2 => bif !r2 then some false else bif b2 then
        Option.bind (c (fs[i].2.2, 0, 256)) fun r3 => bif !r3 then some false else
          bif decide ((i : Int) > 0) then
            bif decide (0 ≤ IntKind.wrap IntKind.i64 ((i : Int) - 1)) && decide (IntKind.wrap IntKind.i64 ((i : Int) - 1) < (fs.length : Int)) then
              bif b3 then
                bif decide ((List.getD fs (Int.toNat (IntKind.wrap IntKind.i64 ((i : Int) - 1))) ((0 : Int), (0 : Int), (0 : Int))).1 ≥ fs[i].1) then some false else x
              else none
            else none
          else x
        else none
      else none) (· = (faultsM (before fs i) (fs.drop i) && k)) := by
  subst h1 h2 h3
  rw [drop_at hi, before_succ hi] at *
  simp only [faultsM, fOk]
  refine tc (hc _ _ _) (tbif (fun h => tl (by simp at h; simp [h])) fun h => ?_)
  refine tc (hc _ _ _) (tbif (fun h' => tl (by simp at h'; simp [h'])) fun h' => ?_)
  refine tc (hc _ _ _) (tbif (fun h'' => tl (by simp at h''; simp [h''])) fun h'' => ?_)
  simp only [Bool.not_eq_false'] at h h' h''
  rw [h, h', h'']
  by_cases h0 : i = 0
  · subst h0
    refine tn (by omega) ?_
    simpa [before] using ih
  · have hb : before fs i = some fs[i - 1] := by unfold before; rw [if_neg h0]; simp
    have e : IntKind.wrap IntKind.i64 ((i : Int) - 1) = ((i - 1 : Nat) : Int) := by rw [wrap_id (by omega) (by omega)]; omega
    rw [hb, e]
    refine tp (by omega) (ti (by omega) (tt rfl ?_))
    rw [getD_in (by omega)]
    refine tif (fun c => tl ?_) fun c => ?_
    · simp only [decide_eq_true c]; simp
    · simp only [decide_eq_false c]; simpa using ih
def faultsOkM (fs : List (Int × Int × Int)) : Bool := faultsM none fs && decide ((fs.length : Int) ≤ 20)
theorem spec_l12Faults.sp {d : Nat} (hd : 2 ≤ d) {fs : List (Int × Int × Int)} (hl : fs.length ≤ 1048576) : spec_l12Faults.f d fs = some (faultsOkM fs) := by
  obtain ⟨d, rfl, _⟩ := dep hd
  rw [spec_l12Faults.t_eq]
  refine Tells.eq ?_
  refine loopE (spec_l12Faults.S0 d) fs.length (fun i => (fs, i)) (fun i r => r = (faultsM (before fs i) (fs.drop i) && decide ((fs.length : Int) ≤ 20))) (by omega) (fun L => ?_) fun L i hi ih => ?_
  · dsimp only [spec_l12Faults.S0, spec_l12Faults.s0]
    exact tn (by omega) (tl (by simp [faultsM]))
  · dsimp only [spec_l12Faults.S0, spec_l12Faults.s0]
    refine tp (by omega) (ti hi ?_)
    rw [getD_in hi, wrap_succ (by omega)]
    exact faults_round hi hl (spec_l1In.sp (by omega)) ih _ _ _ (inr hi) (inr hi) (inr hi)
def secOk (x : List Int) : Bool := decide ((x.length : Int) ≤ 256)
def wrOk (n : Int) (w : Int × List Int) : Bool := inB w.1 0 (n - 1) && decide ((w.2.length : Int) ≤ 256)
abbrev Dk := (List (List Int)) × (List (Int × (List Int))) × Int × (List (Int × Int × Int)) × Bool
def diskOkM (ss : List (List Int)) (ws : List (Int × List Int)) (p : Int) (fs : List (Int × Int × Int)) (on : Bool) : Bool :=
  ss.all secOk && ws.all (wrOk ss.length) && inB ss.length 4 48 && decide ((ws.length : Int) ≤ 60) && inB p 0 100000 && faultsOkM fs && (!on || decide (ws.length = 0))
/-- a test of each element -/
theorem loopAll {A β : Type} (s : (A → Option Bool) → A → Option Bool) (l : List β) (mk : Int → A) (p : β → Bool) (e : Bool) (hn : l.length ≤ 4611686018427387904)
    (base : ∀ L, Tells (s L (mk (l.length : Int))) (· = e))
    (step : ∀ L i (hi : i < l.length), (∀ e', Tells (L (mk ((i + 1 : Nat) : Int))) (· = e') → Tells (s L (mk (i : Int))) (· = (p l[i] && e')))) :
    Tells (iter s rnds (mk (0 : Int))) (· = (l.all p && e)) := by
  have := loopE s l.length mk (fun i r => r = ((l.drop i).all p && e)) hn (fun L => (base L).mono fun r h => by simp [h]) fun L i hi ih => by
    rw [drop_at hi, List.all_cons, Bool.and_assoc]
    exact step L i hi _ ih
  simpa using this
theorem impl_DiskOk.sp {d : Nat} (hd : 2 ≤ d) {ss : List (List Int)} {ws : List (Int × List Int)} {p : Int} {fs : List (Int × Int × Int)} {on : Bool} (h1 : ss.length ≤ 1048576) (h2 : ws.length ≤ 1048576) (h3 : fs.length ≤ 1048576) :
    impl_DiskOk.f d (ss, ws, p, fs, on) = some (diskOkM ss ws p fs on) := by
  obtain ⟨d, rfl, _⟩ := dep hd
  rw [impl_DiskOk.t_eq]
  refine Tells.eq ?_
  have e4 : Tells (iter (impl_DiskOk.S4 d) rnds (fs, (fs.length : Int), (0 : Int), ss, ws, p, fs, on)) (· = faultsM none fs) := by
    have := loopE (impl_DiskOk.S4 d) fs.length (fun i => (fs, (fs.length : Int), i, ss, ws, p, fs, on)) (fun i r => r = (faultsM (before fs i) (fs.drop i) && true)) (by omega) (fun L => ?_) fun L i hi ih => ?_
    · simpa [before] using this
    · dsimp only [impl_DiskOk.S4, impl_DiskOk.s4]
      exact tn (by omega) (tl (by simp [faultsM]))
    · dsimp only [impl_DiskOk.S4, impl_DiskOk.s4]
      refine tp (by omega) (ti hi ?_)
      rw [getD_in hi, wrap_succ (by omega)]
      exact faults_round hi h3 (impl_in.sp (by omega)) ih true true true rfl rfl rfl
  have e2 : Tells (iter (impl_DiskOk.S2 d) rnds (ws, (ws.length : Int), (0 : Int), ss, ws, p, fs, on)) (· = (ws.all (wrOk ss.length) && faultsM none fs)) := by
    refine loopAll (impl_DiskOk.S2 d) ws (fun i => (ws, (ws.length : Int), i, ss, ws, p, fs, on)) _ _ (by omega) (fun L => ?_) fun L i hi e ih => ?_
    · dsimp only [impl_DiskOk.S2, impl_DiskOk.s2]
      exact tn (by omega) e4
    · dsimp only [impl_DiskOk.S2, impl_DiskOk.s2]
      refine tp (by omega) (ti hi ?_)
      rw [getD_in hi, wrap_succ (by omega), wrap_id (by omega) (by omega)]
      refine tc (impl_in.sp (by omega) _ _ _) (tbif (fun c => tl (by simp at c; simp [wrOk, c])) fun c => ?_)
      simp only [Bool.not_eq_false'] at c
      refine tif (fun c2 => tl (by simp [wrOk]; omega)) fun c2 => ih.mono fun r hr => ?_
      rw [hr, wrOk, c, decide_eq_true (by omega)]; rfl
  have e0 : Tells (iter (impl_DiskOk.S0 d) rnds (ss, (ss.length : Int), (0 : Int), ss, ws, p, fs, on)) (· = (ss.all secOk && (ws.all (wrOk ss.length) && faultsM none fs))) := by
    refine loopAll (impl_DiskOk.S0 d) ss (fun i => (ss, (ss.length : Int), i, ss, ws, p, fs, on)) _ _ (by omega) (fun L => ?_) fun L i hi e ih => ?_
    · dsimp only [impl_DiskOk.S0, impl_DiskOk.s0]
      exact tn (by omega) e2
    · dsimp only [impl_DiskOk.S0, impl_DiskOk.s0]
      refine tp (by omega) (ti hi ?_)
      rw [getD_in hi, wrap_succ (by omega)]
      refine tif (fun c2 => tl (by simp [secOk]; omega)) fun c2 => ih.mono fun r hr => ?_
      rw [hr, secOk, decide_eq_true (by omega)]; rfl
  dsimp only [impl_DiskOk.m]
  refine tc (impl_in.sp (by omega) _ _ _) (tbif (fun c => tl (by simp at c; simp [diskOkM, c])) fun c => ?_)
  refine tif (fun c2 => tl (by simp [diskOkM]; omega)) fun c2 => ?_
  refine tc (impl_in.sp (by omega) _ _ _) (tbif (fun c3 => tl (by simp at c3; simp [diskOkM, c3])) fun c3 => ?_)
  refine tif (fun c4 => tl (by simp [diskOkM, faultsOkM]; omega)) fun c4 => ?_
  simp only [Bool.not_eq_false'] at c c3
  have e : diskOkM ss ws p fs on = (ss.all secOk && (ws.all (wrOk ss.length) && faultsM none fs) && (!on || decide (ws.length = 0))) := by
    unfold diskOkM faultsOkM
    rw [c, c3, decide_eq_true (show (ws.length : Int) ≤ 60 by omega), decide_eq_true (show (fs.length : Int) ≤ 20 by omega)]
    simp [Bool.and_assoc]
  rw [e]
  refine tbif (fun c5 => tif (fun c6 => tl ?_) fun c6 => e0.mono fun r hr => ?_) fun c5 => e0.mono fun r hr => ?_
  · rw [c5, decide_eq_false (show ¬ ws.length = 0 by omega)]; simp
  · rw [hr, c5, decide_eq_true (show ws.length = 0 by omega)]; simp
  · rw [hr, c5]; simp
/-- a disk's rows are no longer than memory holds -/
def dkFit (x : Dk) : Prop := (x.1.length ≤ 140737488351232 ∧ ∀ y ∈ x.1, y.length ≤ 140737488351232) ∧ (x.2.1.length ≤ 140737488351232 ∧ ∀ y ∈ x.2.1, y.2.length ≤ 140737488351232) ∧ x.2.2.2.1.length ≤ 140737488351232
def Mb (n : Int) (x : Int) : Prop := x = IntKind.wrap IntKind.u8 n
abbrev MkB := MkL (fun _ : Int => 1) Mb
theorem sum_one {α : Type} (l : List α) : wSum (fun _ => 1) l = l.length := by induction l with
  | nil => rfl
  | cons a l ih => rw [wSum_cons, ih, List.length_cons]; omega
def Mf (n : Int) (x : Int × Int × Int) : Prop := x = (n, n + 1, n + 2)
abbrev MkF := MkL (fun _ : Int × Int × Int => 3) Mf
abbrev MkBB := MkL (fun x : List Int => x.length) MkB
def Mw (n : Int) (x : Int × List Int) : Prop := x.1 = n ∧ MkB (n + 1) x.2
def ww (x : Int × List Int) : Nat := x.2.length + 1
abbrev MkW := MkL ww Mw
def dkW (x : Dk) : Nat := wSum List.length x.1 + wSum ww x.2.1 + wSum (fun _ : Int × Int × Int => 3) x.2.2.2.1
theorem map_len {α β : Type} {f : α → β} {a b : List α} (h : a.map f = b.map f) : a.length = b.length := by simpa using congrArg List.length h
theorem map_all {α β : Type} {f : α → β} {a b : List α} (h : a.map f = b.map f) {P : β → Prop} (hb : ∀ x ∈ b, P (f x)) : ∀ x ∈ a, P (f x) := fun x hx => by
  have := List.mem_map_of_mem (f := f) hx
  rw [h] at this
  obtain ⟨y, hy, e⟩ := List.mem_map.1 this
  rw [← e]; exact hb y hy
def noDk : Dk := ([], [], 0, [], false)
def newDk (n : Int) (fs : List (Int × Int × Int)) : Dk := if inB n 4 48 = true ∧ faultsOkM fs = true then (List.replicate n.toNat [], [], 0, fs, false) else noDk
theorem newDk_fit {n : Int} {fs : List (Int × Int × Int)} : dkFit (newDk n fs) ∧ dkW (newDk n fs) ≤ 1000 := by
  unfold newDk
  split
  · rename_i h
    have h1 := inB_iff.1 h.1
    have h2 := h.2
    unfold faultsOkM at h2
    simp only [Bool.and_eq_true, decide_eq_true_eq] at h2
    have hs : ∀ k : Nat, wSum List.length (List.replicate k ([] : List Int)) = 0 := fun k => by simp [wSum]
    have hq : ∀ l : List (Int × Int × Int), wSum (fun _ : Int × Int × Int => 3) l = 3 * l.length := fun l => by
      induction l with
      | nil => rfl
      | cons y l ih => rw [wSum_cons, ih, List.length_cons]; omega
    refine ⟨⟨⟨by simp; omega, fun y hy => by rw [(List.mem_replicate.1 hy).2]; simp⟩, ⟨by simp, fun y hy => by cases hy⟩, by simp only; omega⟩, ?_⟩
    simp only [dkW, hs, hq]
    simp only [wSum, List.map_nil, List.sum_nil]
    omega
  · exact ⟨⟨⟨by simp [noDk], fun y hy => by cases hy⟩, ⟨by simp [noDk], fun y hy => by cases hy⟩, by simp [noDk]⟩, by simp [noDk, dkW, wSum]⟩
theorem spec_DiskNew.sp {d : Nat} (hd : 3 ≤ d) {n : Int} {fs : List (Int × Int × Int)} (hl : fs.length ≤ 1048576) : spec_DiskNew.f d (n, fs) = some (newDk n fs) := by
  obtain ⟨d, rfl, _⟩ := dep hd
  rw [spec_DiskNew.t_eq]
  dsimp only [spec_DiskNew.m]
  refine Tells.eq ?_
  refine tc (spec_l1In.sp (by omega) _ _ _) (tbif (fun c => tl (by simp at c; simp [newDk, c, noDk])) fun c => ?_)
  refine tc (spec_l12Faults.sp (by omega) hl) (tbif (fun c2 => tl (by simp at c2; simp [newDk, c2, noDk])) fun c2 => ?_)
  simp only [Bool.not_eq_false'] at c c2
  have e : newDk n fs = (List.replicate n.toNat [], [], 0, fs, false) := by unfold newDk; rw [if_pos ⟨c, c2⟩]
  rw [e]
  have hn := inB_iff.1 c
  refine tp (by simp only [List.length_nil, Nat.zero_add]; omega) ?_
  have hz : n = ((n.toNat : Nat) : Int) := by omega
  refine loop0 (σ := List (List Int)) (spec_DiskNew.S0 d) n.toNat (fun st i => (n, i, [], [], 0, [], false, st, [], 0, [] ++ fs, false)) (fun st i => st = List.replicate i []) (fun _ _ r => r = (List.replicate n.toNat [], [], 0, fs, false)) [] (by omega) rfl ?_ ?_
  · rintro L st rfl
    dsimp only [spec_DiskNew.S0, spec_DiskNew.s0]
    exact tn (by omega) (tl rfl)
  · rintro L st i rfl hi ih
    dsimp only [spec_DiskNew.S0, spec_DiskNew.s0]
    refine tp (by omega) (tp (by simp; omega) ?_)
    rw [wrap_succ (by omega)]
    exact ih _ (by rw [List.replicate_succ'])
theorem impl_DiskNew.sp {d : Nat} (hd : 3 ≤ d) {n : Int} {fs : List (Int × Int × Int)} (hl : fs.length ≤ 1048576) : impl_DiskNew.f d (n, fs) = some (newDk n fs) := by
  obtain ⟨d, rfl, _⟩ := dep hd
  rw [impl_DiskNew.t_eq]
  dsimp only [impl_DiskNew.m]
  refine Tells.eq ?_
  refine tc (impl_in.sp (by omega) _ _ _) (tbif (fun c => tl (by simp at c; simp [newDk, c, noDk])) fun c => ?_)
  simp only [Bool.not_eq_false'] at c
  have hn := inB_iff.1 c
  refine tt (by simp; omega) (tp (by simp only [List.length_nil, Nat.zero_add]; omega) ?_)
  refine tc (impl_DiskOk.sp (by omega) (by simp; omega) (by simp) (by simpa using hl)) ?_
  have e : diskOkM (List.replicate n.toNat []) [] 0 ([] ++ fs) false = faultsOkM fs := by
    unfold diskOkM
    have h1 : (List.replicate n.toNat ([] : List Int)).all secOk = true := List.all_eq_true.2 fun x hx => by rw [(List.mem_replicate.1 hx).2]; rfl
    have h2 : ((List.replicate n.toNat ([] : List Int)).length : Int) = n := by simp; omega
    rw [h1, h2, c]
    simp [inB]
  rw [e]
  refine tbif (fun c2 => tl (by simp at c2; simp [newDk, c2, noDk])) fun c2 => tl ?_
  simp only [Bool.not_eq_false'] at c2
  unfold newDk
  rw [if_pos ⟨c, c2⟩]
  rfl
def dkOk (x : Dk) : Prop := okV (.row (.one (.row (.one (.int .u8))))) x.1 ∧ okV (.row (.cons (.int .i64) (.one (.row (.one (.int .u8)))))) x.2.1 ∧ okV (.row (.cons (.int .i64) (.cons (.int .i64) (.one (.int .i64))))) x.2.2.2.1
theorem okRow_len {cs : SS} {l : List cs.T} (h : okV (.row cs) l) : l.length ≤ 140737488351232 := Nat.le_trans (Nat.le_mul_of_pos_right _ (SS.size_pos cs)) h.1
theorem dkOk.fit {x : Dk} (h : dkOk x) : dkFit x :=
  ⟨⟨okRow_len h.1, fun y hy => okRow_len (h.1.2 y hy)⟩, ⟨okRow_len (cs := .cons (.int .i64) (.one (.row (.one (.int .u8))))) h.2.1, fun y hy => okRow_len (h.2.1.2 y hy).2⟩, okRow_len (cs := .cons (.int .i64) (.cons (.int .i64) (.one (.int .i64)))) h.2.2⟩
/-- no more than a million -/
def dkSm (x : Dk) : Prop := (x.1.length ≤ 1048576 ∧ ∀ y ∈ x.1, y.length ≤ 1048576) ∧ (x.2.1.length ≤ 1048576 ∧ ∀ y ∈ x.2.1, y.2.length ≤ 1048576) ∧ x.2.2.2.1.length ≤ 1048576 ∧ dkW x ≤ 10000000
theorem sum_three (l : List (Int × Int × Int)) : wSum (fun _ : Int × Int × Int => 3) l = 3 * l.length := by
  induction l with
  | nil => rfl
  | cons y l ih => rw [wSum_cons, ih, List.length_cons]; omega
theorem sum_ww (l : List (Int × List Int)) : wSum ww l = l.length + wSum (fun x => x.2.length) l := by
  induction l with
  | nil => rfl
  | cons y l ih => rw [wSum_cons, wSum_cons, ih, List.length_cons]; unfold ww; omega
theorem dkSm.fit {x : Dk} (h : dkSm x) : dkFit x := ⟨⟨by have := h.1.1; omega, fun y hy => by have := h.1.2 y hy; omega⟩, ⟨by have := h.2.1.1; omega, fun y hy => by have := h.2.1.2 y hy; omega⟩, by have := h.2.2.1; omega⟩
def lastW (ws : List (Int × List Int)) (n : Int) (z : List Int) : List Int := match ws.reverse.find? (fun w => w.1 == n) with
  | some w => w.2
  | none => z
theorem lastW_snoc {ws : List (Int × List Int)} {i : Nat} (h : i < ws.length) {n : Int} {z : List Int} : lastW (ws.take (i + 1)) n z = if ws[i].1 = n then ws[i].2 else lastW (ws.take i) n z := by
  unfold lastW
  rw [List.take_add_one, List.getElem?_eq_getElem h, Option.toList_some, List.reverse_append, List.reverse_singleton, List.singleton_append, List.find?_cons]
  by_cases hn : ws[i].1 = n
  · rw [if_pos hn, show (ws[i].1 == n) = true by simpa using hn]
  · rw [if_neg hn, show (ws[i].1 == n) = false by simpa using hn]
def readM (x : Dk) (n : Int) : List Int × Bool := if inB n 0 ((x.1.length : Int) - 1) = true then (lastW x.2.1 n (x.1.getD n.toNat []), true) else ([], false)
theorem lastW_mem {ws : List (Int × List Int)} {n : Int} {z : List Int} {P : List Int → Prop} (hz : P z) (hw : ∀ w ∈ ws, P w.2) : P (lastW ws n z) := by
  unfold lastW
  split
  · rename_i w h; exact hw w (List.mem_reverse.1 (List.mem_of_find?_eq_some h))
  · exact hz
theorem readM_fit {x : Dk} {n : Int} {k : Nat} (h : (∀ y ∈ x.1, y.length ≤ k) ∧ ∀ y ∈ x.2.1, y.2.length ≤ k) : (readM x n).1.length ≤ k := by
  unfold readM
  split
  · rename_i hn
    have := inB_iff.1 hn
    have hi : n.toNat < x.1.length := by omega
    refine lastW_mem (P := fun l => l.length ≤ k) ?_ h.2
    rw [List.getD_eq_getElem?_getD, List.getElem?_eq_getElem hi]
    exact h.1 _ (List.getElem_mem hi)
  · simp
theorem impl_copyBytes.sp {d : Nat} (hd : 1 ≤ d) {l : List Int} (hl : l.length ≤ 140737488351232) : impl_copyBytes.f d l = some l := by
  obtain ⟨d, rfl, _⟩ := dep hd
  rw [impl_copyBytes.t_eq]
  dsimp only [impl_copyBytes.m]
  exact Tells.eq (tp (by simp only [List.length_nil, Nat.zero_add]; omega) (tl rfl))
theorem spec_ReadSec.sp {d : Nat} (hd : 2 ≤ d) {x : Dk} (hf : dkFit x) (n : Int) : spec_ReadSec.f d (x.1, x.2.1, x.2.2.1, x.2.2.2.1, x.2.2.2.2, n) = some (readM x n) := by
  obtain ⟨d, rfl, _⟩ := dep hd
  rw [spec_ReadSec.t_eq]
  dsimp only [spec_ReadSec.m]
  have hl1 := hf.1.1
  have hl2 := hf.2.1.1
  rw [wrap_id (by omega) (by omega), wrap_id (by omega) (by omega)]
  refine Tells.eq (tc (spec_l1In.sp (by omega) _ _ _) (tbif (fun c => tl (by simp at c; simp [readM, c])) fun c => ?_))
  simp only [Bool.not_eq_false'] at c
  have hn := inB_iff.1 c
  have e : readM x n = (lastW (x.2.1.take x.2.1.length) n (x.1.getD n.toNat []), true) := by unfold readM; rw [if_pos c, List.take_length]
  rw [e]
  have hi : n.toNat < x.1.length := by omega
  have hz : n = ((n.toNat : Nat) : Int) := by omega
  refine loopDown (spec_ReadSec.S0 d) x.2.1.length (fun i => (n, i, x.1, x.2.1, x.2.2.1, x.2.2.2.1, x.2.2.2.2)) (fun i r => r = (lastW (x.2.1.take i) n (x.1.getD n.toNat []), true)) (by omega) (fun L => ?_) fun L i hi ih => ?_
  · dsimp only [spec_ReadSec.S0, spec_ReadSec.s0]
    have hb := hf.1.2 _ (List.getElem_mem hi)
    refine tn (by omega) (tt (by simp; omega) (tp ?_ (tl rfl)))
    rw [List.getD_eq_getElem?_getD, List.getElem?_eq_getElem hi]
    simp only [List.length_nil, Nat.zero_add, Option.getD_some]; omega
  · dsimp only [spec_ReadSec.S0, spec_ReadSec.s0]
    have hb := hf.2.1.2 _ (List.getElem_mem hi)
    rw [lastW_snoc hi, getD_in hi, wrap_id (by omega) (by omega)]
    refine tp (by omega) (ti hi (tbif (fun c => ti hi (tp (by simp only [List.length_nil, Nat.zero_add]; omega) (tl ?_))) fun c => ?_))
    · rw [if_pos (by simpa using c)]; rfl
    · rw [if_neg (by simpa using c)]; exact ih
theorem impl_ReadSec.sp {d : Nat} (hd : 2 ≤ d) {x : Dk} (hf : dkFit x) (n : Int) : impl_ReadSec.f d (x.1, x.2.1, x.2.2.1, x.2.2.2.1, x.2.2.2.2, n) = some (readM x n) := by
  obtain ⟨d, rfl, _⟩ := dep hd
  rw [impl_ReadSec.t_eq]
  dsimp only [impl_ReadSec.m]
  have hl1 := hf.1.1
  have hl2 := hf.2.1.1
  rw [wrap_id (by omega) (by omega), wrap_id (by omega) (by omega)]
  refine Tells.eq (tc (impl_in.sp (by omega) _ _ _) (tbif (fun c => tl (by simp at c; simp [readM, c])) fun c => ?_))
  simp only [Bool.not_eq_false'] at c
  have hn := inB_iff.1 c
  have e : readM x n = (lastW (x.2.1.take x.2.1.length) n (x.1.getD n.toNat []), true) := by unfold readM; rw [if_pos c, List.take_length]
  rw [e]
  have hi : n.toNat < x.1.length := by omega
  refine loopDown (impl_ReadSec.S0 d) x.2.1.length (fun i => (n, i, x.1, x.2.1, x.2.2.1, x.2.2.2.1, x.2.2.2.2)) (fun i r => r = (lastW (x.2.1.take i) n (x.1.getD n.toNat []), true)) (by omega) (fun L => ?_) fun L i hi ih => ?_
  · dsimp only [impl_ReadSec.S0, impl_ReadSec.s0]
    have hb := hf.1.2 _ (List.getElem_mem hi)
    refine tn (by omega) (tt (by simp; omega) (tc (impl_copyBytes.sp (by omega) ?_) (tl rfl)))
    rw [List.getD_eq_getElem?_getD, List.getElem?_eq_getElem hi]
    exact hb
  · dsimp only [impl_ReadSec.S0, impl_ReadSec.s0]
    rw [lastW_snoc hi, getD_in hi, wrap_id (by omega) (by omega)]
    refine tp (by omega) (ti hi (tbif (fun c => ti hi (tc (impl_copyBytes.sp (by omega) (hf.2.1.2 _ (List.getElem_mem hi))) (tl ?_))) fun c => ?_))
    · rw [if_pos (by simpa using c)]
    · rw [if_neg (by simpa using c)]; exact ih
theorem impl_copyDisk.sp {d : Nat} (hd : 2 ≤ d) {x : Dk} (h : dkSm x) : impl_copyDisk.f d (x.1, x.2.1, x.2.2.1, x.2.2.2.1, x.2.2.2.2) = some x := by
  obtain ⟨d, rfl, _⟩ := dep hd
  rw [impl_copyDisk.t_eq]
  dsimp only [impl_copyDisk.m]
  have a1 := h.1.1
  have a2 := h.2.1.1
  have a3 := h.2.2.1
  refine Tells.eq ?_
  refine loopApp (impl_copyDisk.S0 d) x.1 id (fun st i => (x.1, (x.1.length : Int), i, x.1, x.2.1, x.2.2.1, x.2.2.2.1, x.2.2.2.2, ([] : List (List Int)), ([] : List (Int × List Int)), (0 : Int), ([] : List (Int × Int × Int)), false, st)) _ (by omega) (fun L => ?_) fun L st i Q hi h1 ih => ?_
  · dsimp only [impl_copyDisk.S0, impl_copyDisk.s0]
    refine tn (by omega) ?_
    refine loopApp (impl_copyDisk.S2 d) x.2.1 id (fun st i => (x.2.1, (x.2.1.length : Int), i, x.1, x.2.1, x.2.2.1, x.2.2.2.1, x.2.2.2.2, ([] : List (List Int)), ([] : List (Int × List Int)), (0 : Int), ([] : List (Int × Int × Int)), false, x.1.map id, st)) _ (by omega) (fun L => ?_) fun L st i Q hi h1 ih => ?_
    · dsimp only [impl_copyDisk.S2, impl_copyDisk.s2]
      exact tn (by omega) (tp (by simp only [List.length_nil, Nat.zero_add]; omega) (tl (by simp)))
    · dsimp only [impl_copyDisk.S2, impl_copyDisk.s2]
      have := h.2.1.2 _ (List.getElem_mem hi)
      refine tp (by omega) (ti hi ?_)
      rw [getD_in hi, wrap_succ (by omega)]
      exact tc (impl_copyBytes.sp (by omega) (by omega)) (tp (by simp; omega) ih)
  · dsimp only [impl_copyDisk.S0, impl_copyDisk.s0]
    have := h.1.2 _ (List.getElem_mem hi)
    refine tp (by omega) (ti hi ?_)
    rw [getD_in hi, wrap_succ (by omega)]
    exact tc (impl_copyBytes.sp (by omega) (by omega)) (tp (by simp; omega) ih)
def onM (x : Dk) : Dk := (x.1, x.2.1, x.2.2.1, x.2.2.2.1, false)
theorem impl_TurnOn.sp {d : Nat} (hd : 3 ≤ d) {x : Dk} (h : dkSm x) : impl_TurnOn.f d (x.1, x.2.1, x.2.2.1, x.2.2.2.1, x.2.2.2.2) = some (onM x) := by
  obtain ⟨d, rfl, _⟩ := dep hd
  rw [impl_TurnOn.t_eq]
  dsimp only [impl_TurnOn.m]
  exact Tells.eq (tc (impl_copyDisk.sp (by omega) h) (tl rfl))
theorem spec_DiskOk.sp {d : Nat} (hd : 3 ≤ d) {ss : List (List Int)} {ws : List (Int × List Int)} {p : Int} {fs : List (Int × Int × Int)} {on : Bool} (h1 : ss.length ≤ 1048576) (h2 : ws.length ≤ 1048576) (h3 : fs.length ≤ 1048576) :
    spec_DiskOk.f d (ss, ws, p, fs, on) = some (diskOkM ss ws p fs on) := by
  obtain ⟨d, rfl, _⟩ := dep hd
  rw [spec_DiskOk.t_eq]
  dsimp only [spec_DiskOk.m]
  refine Tells.eq ?_
  have := loopAll (spec_DiskOk.S0 d) ss (fun i => (i, ss, ws, p, fs, on)) secOk (ws.all (wrOk ss.length) && (inB ss.length 4 48 && (decide ((ws.length : Int) ≤ 60) && (inB p 0 100000 && (faultsOkM fs && (!on || decide (ws.length = 0))))))) (by omega) (fun L => ?_) fun L i hi e ih => ?_
  · refine this.mono fun r hr => ?_
    rw [hr]; unfold diskOkM; simp only [Bool.and_assoc]
  · dsimp only [spec_DiskOk.S0, spec_DiskOk.s0]
    refine tn (by omega) ?_
    refine loopAll (spec_DiskOk.S2 d) ws (fun i => (i, ss, ws, p, fs, on)) (wrOk ss.length) _ (by omega) (fun L => ?_) fun L i hi e ih => ?_
    · dsimp only [spec_DiskOk.S2, spec_DiskOk.s2]
      refine tn (by omega) (tc (spec_l1In.sp (by omega) _ _ _) (tbif (fun c => ?_) fun c => tl (by rw [c]; rfl)))
      rw [c, Bool.true_and]
      refine tif (fun c2 => ?_) fun c2 => tl (by rw [decide_eq_false c2]; rfl)
      rw [decide_eq_true c2, Bool.true_and]
      refine tc (spec_l1In.sp (by omega) _ _ _) (tbif (fun c => ?_) fun c => tl (by rw [c]; rfl))
      rw [c, Bool.true_and]
      refine tc (spec_l12Faults.sp (by omega) h3) (tbif (fun c => ?_) fun c => tl (by rw [c]; rfl))
      rw [c, Bool.true_and]
      refine tbif (fun c => tl (by simp at c; rw [c]; rfl)) fun c => tl ?_
      simp only [Bool.not_eq_false'] at c
      rw [c, Bool.eq_iff_iff]
      simp
    · dsimp only [spec_DiskOk.S2, spec_DiskOk.s2]
      refine tp (by omega) (ti hi ?_)
      rw [getD_in hi, wrap_succ (by omega), wrap_id (by omega) (by omega)]
      refine tc (spec_l1In.sp (by omega) _ _ _) (tbif (fun c => tl (by simp at c; simp [wrOk, c])) fun c => ti hi ?_)
      simp only [Bool.not_eq_false'] at c
      refine tif (fun c2 => tl (by simp [wrOk]; omega)) fun c2 => ih.mono fun r hr => ?_
      rw [hr, wrOk, c, decide_eq_true (by omega)]; rfl
  · dsimp only [spec_DiskOk.S0, spec_DiskOk.s0]
    refine tp (by omega) (ti hi ?_)
    rw [getD_in hi, wrap_succ (by omega)]
    refine tif (fun c2 => tl (by simp [secOk]; omega)) fun c2 => ih.mono fun r hr => ?_
    rw [hr, secOk, decide_eq_true (by omega)]; rfl
def faultM (fs : List (Int × Int × Int)) (p : Int) : Int × Int × Int × Bool := match fs.find? (fun f => f.1 == p) with
  | some f => (f.1, f.2.1, f.2.2, true)
  | none => (0, 0, 0, false)
theorem faultM_cons {f : Int × Int × Int} {r : List (Int × Int × Int)} {p : Int} : faultM (f :: r) p = if f.1 = p then (f.1, f.2.1, f.2.2, true) else faultM r p := by
  unfold faultM
  rw [List.find?_cons]
  by_cases h : f.1 = p
  · rw [if_pos h, show (f.1 == p) = true by simpa using h]
  · rw [if_neg h, show (f.1 == p) = false by simpa using h]
theorem faultM_mem {fs : List (Int × Int × Int)} {p : Int} (h : (faultM fs p).2.2.2 = true) : ((faultM fs p).1, (faultM fs p).2.1, (faultM fs p).2.2.1) ∈ fs := by
  unfold faultM at h ⊢
  cases hf : fs.find? (fun f => f.1 == p) with
  | none => rw [hf] at h; cases h
  | some f => exact List.mem_of_find?_eq_some hf
theorem spec_l12Fault.sp {d : Nat} (hd : 1 ≤ d) {x : Dk} (h : dkFit x) : spec_l12Fault.f d (x.1, x.2.1, x.2.2.1, x.2.2.2.1, x.2.2.2.2) = some (faultM x.2.2.2.1 x.2.2.1) := by
  obtain ⟨d, rfl, _⟩ := dep hd
  rw [spec_l12Fault.t_eq]
  dsimp only [spec_l12Fault.m]
  have hl := h.2.2
  refine Tells.eq ?_
  refine loopE (spec_l12Fault.S0 d) x.2.2.2.1.length (fun i => (i, x.1, x.2.1, x.2.2.1, x.2.2.2.1, x.2.2.2.2, 0, 0, 0)) (fun i r => r = faultM (x.2.2.2.1.drop i) x.2.2.1) (by omega) (fun L => ?_) fun L i hi ih => ?_
  · dsimp only [spec_l12Fault.S0, spec_l12Fault.s0]
    exact tn (by omega) (tl (by simp [faultM]))
  · dsimp only [spec_l12Fault.S0, spec_l12Fault.s0]
    rw [drop_at hi, faultM_cons, getD_in hi, wrap_succ (by omega)]
    refine tp (by omega) (ti hi (tbif (fun c => ti hi (tl ?_)) fun c => ?_))
    · rw [if_pos (by simpa using c)]
    · rw [if_neg (by simpa using c)]; exact ih
def applyW : List (List Int) → List (Int × List Int) → List (List Int)
  | ss, [] => ss
  | ss, w :: r => applyW (ss.set w.1.toNat w.2) r
theorem applyW_snoc : ∀ {ws : List (Int × List Int)} {ss : List (List Int)} {w : Int × List Int}, applyW ss (ws ++ [w]) = (applyW ss ws).set w.1.toNat w.2
  | [], _, _ => rfl
  | _ :: r, ss, w => applyW_snoc (ws := r)
theorem applyW_len : ∀ {ws : List (Int × List Int)} {ss : List (List Int)}, (applyW ss ws).length = ss.length
  | [], _ => rfl
  | w :: r, ss => by rw [applyW, applyW_len (ws := r), List.length_set]
theorem applyW_all {P : List Int → Prop} : ∀ {ws : List (Int × List Int)} {ss : List (List Int)}, (∀ y ∈ ss, P y) → (∀ w ∈ ws, P w.2) → ∀ y ∈ applyW ss ws, P y
  | [], _, h, _ => h
  | w :: r, ss, h, hw => applyW_all (ws := r) (fun y hy => by
      rcases List.mem_or_eq_of_mem_set hy with h1 | h1
      · exact h y h1
      · rw [h1]; exact hw w (by simp)) fun x hx => hw x (by simp [hx])
/-- sectors that are there, rows that memory holds -/
def wrIn (n : Nat) (ws : List (Int × List Int)) : Prop := ∀ w ∈ ws, 0 ≤ w.1 ∧ w.1 < n ∧ w.2.length ≤ 1048576
/-- the mask's bit -/
def bitM (m : Int) (i : Nat) : Int := IntKind.wrap IntKind.i64 ((BitVec.ofInt (IntKind.bits IntKind.i64) (Int.fdiv m (2 ^ (min i (IntKind.bits IntKind.i64)))) &&& BitVec.ofInt (IntKind.bits IntKind.i64) (1 : Int)).toNat : Int)
theorem bitM_one (m : Int) (i : Nat) : bitM m i = 0 ∨ bitM m i = 1 := by
  unfold bitM
  have h : (BitVec.ofInt (IntKind.bits IntKind.i64) (Int.fdiv m (2 ^ (min i (IntKind.bits IntKind.i64)))) &&& BitVec.ofInt (IntKind.bits IntKind.i64) (1 : Int)).toNat ≤ 1 := by
    rw [BitVec.toNat_and]
    exact Nat.and_le_right
  rw [wrap_id (by omega) (by omega)]
  omega
def isKept (m : Int) (i : Nat) : Bool := decide (i < 20) && (bitM m i == 1)
def keptW (m : Int) (ws : List (Int × List Int)) : Nat → List (Int × List Int)
  | 0 => []
  | n + 1 => keptW m ws n ++ (if isKept m n = true then (match ws[n]? with | some w => [w] | none => []) else [])
theorem keptW_len {m : Int} {ws : List (Int × List Int)} : ∀ {n : Nat}, (keptW m ws n).length ≤ n
  | 0 => Nat.le_refl _
  | n + 1 => by
    have := keptW_len (m := m) (ws := ws) (n := n)
    simp only [keptW, List.length_append]
    have h : (if isKept m n = true then (match ws[n]? with | some w => [w] | none => []) else []).length ≤ 1 := by
      split
      · split <;> simp
      · simp
    omega
theorem keptW_mem {m : Int} {ws : List (Int × List Int)} : ∀ {n : Nat} {w : Int × List Int}, w ∈ keptW m ws n → w ∈ ws
  | 0, w, h => by cases h
  | n + 1, w, h => by
    simp only [keptW, List.mem_append] at h
    rcases h with h | h
    · exact keptW_mem h
    · split at h
      · split at h
        · rename_i w' hw
          simp only [List.mem_singleton] at h
          rw [h]; exact List.mem_of_getElem? hw
        · cases h
      · cases h
theorem keptW_same {m : Int} {ws : List (Int × List Int)} {n : Nat} : ∀ k, (∀ j, n ≤ j → isKept m j = false ∨ ws.length ≤ j) → keptW m ws (n + k) = keptW m ws n
  | 0, _ => rfl
  | k + 1, h => by
    rw [← Nat.add_assoc]
    simp only [keptW]
    rw [keptW_same k h]
    rcases h (n + k) (by omega) with h1 | h1
    · rw [h1]; simp
    · rw [List.getElem?_eq_none h1]; simp
/-- the last one is cut -/
def cutW (c : Int) (w : Int × List Int) : Int × List Int := (w.1, w.2.take c.toNat)
def cutLast (c : Int) (l : List (Int × List Int)) : List (Int × List Int) := match l.getLast? with
  | none => []
  | some w => l.dropLast ++ [cutW c w]
theorem cutLast_snoc {c : Int} {l : List (Int × List Int)} {w : Int × List Int} : cutLast c (l ++ [w]) = l ++ [cutW c w] := by
  unfold cutLast
  rw [List.getLast?_concat, List.dropLast_concat]
def loseM (x : Dk) (m c : Int) : Dk := (applyW x.1 (cutLast c (keptW m x.2.1 x.2.1.length)), [], x.2.2.1, x.2.2.2.1, true)
theorem take_min {l : List Int} {c : Int} (h : 0 ≤ c) : l.take (Int.toNat (bif decide ((l.length : Int) < c) then (l.length : Int) else c)) = l.take c.toNat := by
  by_cases hc : (l.length : Int) < c
  · rw [decide_eq_true hc, cond_true, Int.toNat_natCast, List.take_length, List.take_of_length_le (by omega)]
  · rw [decide_eq_false hc, cond_false]
theorem wrap_u64 {i : Nat} (h : i < 4611686018427387904) : IntKind.wrap IntKind.u64 (i : Int) = (i : Int) := by
  have e : (2 : Int) ^ 64 = 18446744073709551616 := by decide
  simp only [IntKind.wrap, IntKind.signed, IntKind.bits, Bool.false_and, Bool.false_eq_true, if_false, e]
  omega
theorem keptW_at {m : Int} {ws : List (Int × List Int)} {j : Nat} (h : j < ws.length) (hk : isKept m j = true) : keptW m ws (j + 1) = keptW m ws j ++ [ws[j]] := by
  simp only [keptW, hk, if_true, List.getElem?_eq_getElem h]
theorem keptW_not {m : Int} {ws : List (Int × List Int)} {j : Nat} (hk : isKept m j = false) : keptW m ws (j + 1) = keptW m ws j := by
  simp only [keptW, hk, Bool.false_eq_true, if_false, List.append_nil]
theorem spec_l12Lose.sp {d : Nat} (hd : 1 ≤ d) {x : Dk} {p m c : Int} (hl : x.2.1.length ≤ 1048576) (hw : wrIn x.1.length x.2.1) (hc : 0 ≤ c) : spec_l12Lose.f d (x.1, x.2.1, x.2.2.1, x.2.2.2.1, x.2.2.2.2, p, m, c) = some (loseM x m c) := by
  obtain ⟨d, rfl, _⟩ := dep hd
  rw [spec_l12Lose.t_eq]
  dsimp only [spec_l12Lose.m]
  refine Tells.eq ?_
  have hall : keptW m x.2.1 x.2.1.length = keptW m x.2.1 (min x.2.1.length 20) := by
    have h := keptW_same (m := m) (ws := x.2.1) (n := min x.2.1.length 20) (x.2.1.length - min x.2.1.length 20) fun j hj => by
      by_cases h20 : j < 20
      · exact .inr (by omega)
      · exact .inl (by unfold isKept; rw [decide_eq_false h20]; rfl)
    rwa [show min x.2.1.length 20 + (x.2.1.length - min x.2.1.length 20) = x.2.1.length by omega] at h
  -- the second round over the writes
  have two : ∀ st : Int, ((st = -1 ∧ keptW m x.2.1 x.2.1.length = []) ∨ ∃ j : Nat, st = j ∧ j < 20 ∧ j < x.2.1.length ∧ isKept m j = true ∧ keptW m x.2.1 x.2.1.length = keptW m x.2.1 (j + 1)) →
      Tells (iter (spec_l12Lose.S2 d) rnds (st, (0 : Int), x.1, x.2.1, x.2.2.1, x.2.2.2.1, x.2.2.2.2, p, m, c)) (· = loseM x m c) := by
    rintro st (⟨rfl, h⟩ | ⟨j, rfl, hj20, hj, hkj, h⟩)
    · refine loop0 (σ := Unit) (spec_l12Lose.S2 d) 0 (fun _ i => (-1, i, x.1, x.2.1, x.2.2.1, x.2.2.2.1, x.2.2.2.2, p, m, c)) (fun _ _ => True) (fun _ _ r => r = loseM x m c) () (by omega) trivial ?_ ?_
      · rintro L _ _
        dsimp only [spec_l12Lose.S2, spec_l12Lose.s2]
        exact tn (by omega) (tl (by unfold loseM; rw [h]; rfl))
      · intro _ _ i _ hi; cases hi
    · refine loop0 (σ := List (List Int)) (spec_l12Lose.S2 d) (j + 1) (fun st i => (j, i, st, x.2.1, x.2.2.1, x.2.2.2.1, x.2.2.2.2, p, m, c)) (fun st i => st = if i ≤ j then applyW x.1 (keptW m x.2.1 i) else applyW x.1 (cutLast c (keptW m x.2.1 (j + 1)))) (fun _ _ r => r = loseM x m c) x.1 (by omega) (by rw [if_pos (Nat.zero_le _)]; rfl) ?_ ?_
      · rintro L st rfl
        dsimp only [spec_l12Lose.S2, spec_l12Lose.s2]
        rw [if_neg (by omega)]
        exact tn (by omega) (tl (by unfold loseM; rw [h]))
      · rintro L st i rfl hi ih
        have hi' : i < x.2.1.length := by omega
        obtain ⟨w1, w2, w3⟩ := hw _ (List.getElem_mem hi')
        have hlen : (applyW x.1 (keptW m x.2.1 i)).length = x.1.length := applyW_len
        dsimp only [spec_l12Lose.S2, spec_l12Lose.s2]
        rw [if_pos (by omega), getD_in hi', wrap_succ (by omega), wrap_u64 (by omega), Int.toNat_natCast]
        refine tp (by omega) (ti hi' (tp (by omega) (tbif (fun c0 => ih _ ?_) fun c0 => ?_)))
        · have hb : isKept m i = false := by
            unfold isKept bitM
            have : (IntKind.wrap IntKind.i64 ((BitVec.ofInt (IntKind.bits IntKind.i64) (Int.fdiv m (2 ^ (min i (IntKind.bits IntKind.i64)))) &&& BitVec.ofInt (IntKind.bits IntKind.i64) (1 : Int)).toNat : Int)) = 0 := by simpa using c0
            rw [this]; simp
          have hne : i ≠ j := by rintro rfl; rw [hkj] at hb; cases hb
          rw [if_pos (by omega), keptW_not hb]
        · have hb : isKept m i = true := by
            have h1 := bitM_one m i
            unfold isKept
            rw [decide_eq_true (by omega)]
            unfold bitM at h1 ⊢
            rcases h1 with h1 | h1
            · rw [h1] at c0; cases c0
            · rw [h1]; rfl
          refine tbif (fun c1 => ?_) fun c1 => ?_
          · have e : i = j := by have := of_decide_eq_true c1; omega
            subst e
            refine tif (fun c2 => tt ?_ (tp ?_ (tt ?_ (ih _ ?_)))) fun c2 => tp ?_ (tt ?_ (ih _ ?_))
            · simp; omega
            · simp; omega
            · rw [hlen, decide_eq_true w1, decide_eq_true w2]; rfl
            · rw [if_neg (by omega), keptW_at hi' hb, cutLast_snoc, applyW_snoc]
              simp [cutW]
            · simp; omega
            · rw [hlen, decide_eq_true w1, decide_eq_true w2]; rfl
            · rw [if_neg (by omega), keptW_at hi' hb, cutLast_snoc, applyW_snoc]
              simp only [cutW, List.nil_append]
              rw [List.take_of_length_le (by omega)]
          · have e : i ≠ j := by rintro rfl; simp at c1
            refine tp ?_ (tt ?_ (ih _ ?_))
            · simp; omega
            · rw [hlen, decide_eq_true w1, decide_eq_true w2]; rfl
            · rw [if_pos (by omega), keptW_at hi' hb, applyW_snoc, List.nil_append]
  refine loop0 (σ := Int) (spec_l12Lose.S0 d) (min x.2.1.length 20) (fun st i => (st, i, x.1, x.2.1, x.2.2.1, x.2.2.2.1, x.2.2.2.2, p, m, c))
    (fun st i => (st = -1 ∧ keptW m x.2.1 i = []) ∨ ∃ j : Nat, st = j ∧ j < i ∧ isKept m j = true ∧ keptW m x.2.1 i = keptW m x.2.1 (j + 1)) (fun _ _ r => r = loseM x m c) (-1) (by omega) (.inl ⟨rfl, rfl⟩) ?_ ?_
  · rintro L st hI
    have h2 := two st (by
      rcases hI with ⟨h1, h2⟩ | ⟨j, h1, h2, h3, h4⟩
      · exact .inl ⟨h1, by rw [hall]; exact h2⟩
      · exact .inr ⟨j, h1, by omega, by omega, h3, by rw [hall]; exact h4⟩)
    dsimp only [spec_l12Lose.S0, spec_l12Lose.s0]
    exact tif (fun c1 => tn (by omega) h2) fun _ => h2
  · rintro L st i hI hi ih
    dsimp only [spec_l12Lose.S0, spec_l12Lose.s0]
    rw [wrap_succ (by omega), wrap_u64 (by omega), Int.toNat_natCast]
    refine tp (by omega) (tp (by omega) (tp (by omega) (tbif (fun c1 => ih _ ?_) fun c1 => ih _ ?_)))
    · have hb : isKept m i = true := by unfold isKept bitM; rw [c1, decide_eq_true (by omega)]; rfl
      exact .inr ⟨i, rfl, by omega, hb, rfl⟩
    · have hb : isKept m i = false := by unfold isKept bitM; rw [c1]; simp
      rw [keptW_not hb]
      rcases hI with h1 | ⟨j, h1, h2, h3, h4⟩
      · exact .inl h1
      · exact .inr ⟨j, h1, by omega, h3, h4⟩
def dkGood (x : Dk) : Prop := dkSm x ∧ wrIn x.1.length x.2.1 ∧ (∀ f ∈ x.2.2.2.1, 0 ≤ f.2.2) ∧ x.2.2.1 ≤ 1000000000 ∧ -1000000000 ≤ x.2.2.1
def pulsed (x : Dk) : Dk := (x.1, x.2.1, x.2.2.1 + 1, x.2.2.2.1, x.2.2.2.2)
def flushM (x : Dk) : Int × Dk :=
  if x.2.2.2.2 = true then (9, x) else if x.2.2.1 ≥ 100000 then (9, x)
  else if (faultM x.2.2.2.1 x.2.2.1).2.2.2 = true then (9, loseM (pulsed x) (faultM x.2.2.2.1 x.2.2.1).2.1 (faultM x.2.2.2.1 x.2.2.1).2.2.1)
  else (0, applyW x.1 x.2.1, [], x.2.2.1 + 1, x.2.2.2.1, x.2.2.2.2)
theorem spec_l12Flush.sp {d : Nat} (hd : 2 ≤ d) {x : Dk} (h : dkGood x) : spec_l12Flush.f d (x.1, x.2.1, x.2.2.1, x.2.2.2.1, x.2.2.2.2) = some (flushM x) := by
  obtain ⟨d, rfl, _⟩ := dep hd
  rw [spec_l12Flush.t_eq]
  dsimp only [spec_l12Flush.m]
  obtain ⟨sm, hw, hf, hp1, hp2⟩ := h
  unfold flushM
  refine Tells.eq (tbif (fun c1 => tl (by rw [if_pos c1])) fun c1 => ?_)
  rw [if_neg (by rw [c1]; simp)]
  refine tif (fun c2 => tl (by rw [if_pos c2])) fun c2 => ?_
  rw [if_neg c2, wrap_id (by omega) (by omega)]
  refine tc (spec_l12Fault.sp (by omega) sm.fit) (tbif (fun c3 => ?_) fun c3 => ?_)
  · rw [if_pos c3]
    have hcut := hf _ (faultM_mem c3)
    exact tc (spec_l12Lose.sp (x := pulsed x) (by omega) sm.2.1.1 hw hcut) (tl rfl)
  · rw [if_neg (by rw [c3]; simp)]
    have hl := sm.2.1.1
    refine loop0 (σ := List (List Int)) (spec_l12Flush.S0 d) x.2.1.length (fun st i => (i, st, x.2.1, x.2.2.1 + 1, x.2.2.2.1, x.2.2.2.2)) (fun st i => st = applyW x.1 (x.2.1.take i)) (fun _ _ r => r = (0, applyW x.1 x.2.1, [], x.2.2.1 + 1, x.2.2.2.1, x.2.2.2.2)) x.1 (by omega) rfl ?_ ?_
    · rintro L st rfl
      dsimp only [spec_l12Flush.S0, spec_l12Flush.s0]
      exact tn (by omega) (tl (by rw [List.take_length]))
    · rintro L st i rfl hi ih
      dsimp only [spec_l12Flush.S0, spec_l12Flush.s0]
      obtain ⟨w1, w2, w3⟩ := hw _ (List.getElem_mem hi)
      rw [getD_in hi, wrap_succ (by omega)]
      refine tp (by omega) (ti hi (ti hi (tt ?_ (ih _ ?_))))
      · rw [applyW_len, decide_eq_true w1, decide_eq_true w2]; rfl
      · rw [List.take_add_one, List.getElem?_eq_getElem hi, Option.toList_some, applyW_snoc]
theorem diskOk_good {x : Dk} (sm : dkSm x) (h : diskOkM x.1 x.2.1 x.2.2.1 x.2.2.2.1 x.2.2.2.2 = true) : dkGood x := by
  unfold diskOkM at h
  simp only [Bool.and_eq_true] at h
  obtain ⟨⟨⟨⟨⟨⟨h1, h2⟩, h3⟩, h4⟩, h5⟩, h6⟩, h7⟩ := h
  have hp := inB_iff.1 h5
  refine ⟨sm, fun w hw => ?_, fun f hf => ?_, by omega, by omega⟩
  · have := List.all_eq_true.1 h2 w hw
    unfold wrOk at this
    simp only [Bool.and_eq_true, decide_eq_true_eq] at this
    have hi := inB_iff.1 this.1
    exact ⟨by omega, by omega, by omega⟩
  · unfold faultsOkM at h6
    simp only [Bool.and_eq_true] at h6
    have key : ∀ (l : List (Int × Int × Int)) (o : Option (Int × Int × Int)), faultsM o l = true → ∀ f ∈ l, 0 ≤ f.2.2 := by
      intro l
      induction l with
      | nil => intro _ _ f hf; cases hf
      | cons a r ih =>
        intro o ho f hf
        simp only [faultsM, Bool.and_eq_true] at ho
        obtain ⟨ha, hr⟩ := ho
        rcases List.mem_cons.1 hf with rfl | hf
        · unfold fOk at ha
          simp only [Bool.and_eq_true] at ha
          exact (inB_iff.1 ha.2.2).1
        · cases o with
          | none => exact ih _ hr f hf
          | some y =>
            simp only [Bool.and_eq_true] at hr
            exact ih _ hr.2 f hf
    exact key _ _ h6.1 f hf
/-- what the document says of a call that may not be: its code -/
def mayM (x : Dk) : Int := if diskOkM x.1 x.2.1 x.2.2.1 x.2.2.2.1 x.2.2.2.2 = true then (if x.2.2.2.2 = true then 9 else if x.2.2.1 ≥ 100000 then 9 else 0) else 1
def flushAll (x : Dk) : (List (List Int)) × (List (Int × (List Int))) × Int × (List (Int × Int × Int)) × Bool × Int :=
  if diskOkM x.1 x.2.1 x.2.2.1 x.2.2.2.1 x.2.2.2.2 = true then ((flushM x).2.1, (flushM x).2.2.1, (flushM x).2.2.2.1, (flushM x).2.2.2.2.1, (flushM x).2.2.2.2.2, (flushM x).1) else (x.1, x.2.1, x.2.2.1, x.2.2.2.1, x.2.2.2.2, 1)
theorem wSum_le {β : Type} {w : β → Nat} {k : Nat} : ∀ {l : List β}, (∀ x ∈ l, w x ≤ k) → wSum w l ≤ l.length * k
  | [], _ => Nat.zero_le _
  | x :: l, h => by
    have := wSum_le (l := l) fun y hy => h y (by simp [hy])
    have h0 := h x (by simp)
    rw [wSum_cons, List.length_cons, Nat.add_mul]
    omega
/-- rows and numbers of a size that may be marked -/
def dkB (x : Dk) : Prop := (x.1.length ≤ 1048577 ∧ ∀ y ∈ x.1, y.length ≤ 1048577) ∧ (x.2.1.length ≤ 1048577 ∧ ∀ y ∈ x.2.1, y.2.length ≤ 1048577) ∧ x.2.2.2.1.length ≤ 1048577
theorem dkB.fit {x : Dk} (h : dkB x) : dkFit x := ⟨⟨by have := h.1.1; omega, fun y hy => by have := h.1.2 y hy; omega⟩, ⟨by have := h.2.1.1; omega, fun y hy => by have := h.2.1.2 y hy; omega⟩, by have := h.2.2; omega⟩
theorem dkB.wide {x : Dk} (h : dkB x) : dkW x ≤ 4000000000000000 := by
  unfold dkW
  have h1 := wSum_le (w := List.length) (k := 1048577) h.1.2
  have h2 := wSum_le (w := ww) (k := 1048578) (l := x.2.1) fun y hy => by have := h.2.1.2 y hy; unfold ww; omega
  have h3 := sum_three x.2.2.2.1
  have a1 : x.1.length * 1048577 ≤ 1048577 * 1048577 := Nat.mul_le_mul_right _ h.1.1
  have a2 : x.2.1.length * 1048578 ≤ 1048577 * 1048578 := Nat.mul_le_mul_right _ h.2.1.1
  have a3 := h.2.2
  omega
theorem dkSm.b {x : Dk} (h : dkSm x) : dkB x := ⟨⟨by have := h.1.1; omega, fun y hy => by have := h.1.2 y hy; omega⟩, ⟨by have := h.2.1.1; omega, fun y hy => by have := h.2.1.2 y hy; omega⟩, by have := h.2.2.1; omega⟩
abbrev Dc := (List (List Int)) × (List (Int × (List Int))) × Int × (List (Int × Int × Int)) × Bool × Int
def dkOf (r : Dc) : Dk := (r.1, r.2.1, r.2.2.1, r.2.2.2.1, r.2.2.2.2.1)
theorem keptW_fit {m : Int} {ws : List (Int × List Int)} {n k : Nat} (h : ∀ w ∈ ws, w.2.length ≤ k) {c : Int} : ∀ w ∈ cutLast c (keptW m ws n), w.2.length ≤ k := by
  intro w hw
  unfold cutLast at hw
  split at hw
  · cases hw
  · rename_i v hv
    have hm := List.mem_of_getLast? hv
    rcases List.mem_append.1 hw with h1 | h1
    · exact h w (keptW_mem (List.dropLast_subset _ h1))
    · obtain rfl := List.mem_singleton.1 h1
      have := h v (keptW_mem hm)
      simp only [cutW, List.length_take]
      omega
theorem loseM_b {x : Dk} {m c : Int} (h : dkB x) : dkB (loseM x m c) :=
  ⟨⟨by unfold loseM; rw [applyW_len]; exact h.1.1, applyW_all h.1.2 (keptW_fit h.2.1.2)⟩, ⟨Nat.zero_le _, fun y hy => by cases hy⟩, h.2.2⟩
theorem flushM_b {x : Dk} (h : dkB x) : dkB (flushM x).2 := by
  unfold flushM
  split
  · exact h
  · split
    · exact h
    · split
      · exact loseM_b (x := pulsed x) h
      · exact ⟨⟨by rw [applyW_len]; exact h.1.1, applyW_all h.1.2 h.2.1.2⟩, ⟨Nat.zero_le _, fun y hy => by cases hy⟩, h.2.2⟩
theorem flushAll_b {x : Dk} (h : dkB x) : dkB (dkOf (flushAll x)) := by
  unfold flushAll
  split
  · exact flushM_b h
  · exact h
def wrote (x : Dk) (n : Int) (b : List Int) : Dk := (x.1, x.2.1 ++ [(n, b)], x.2.2.1 + 1, x.2.2.2.1, x.2.2.2.2)
def writeM (x : Dk) (n : Int) (b : List Int) : Int × Dk :=
  if x.2.2.2.2 = true then (9, x) else if x.2.2.1 ≥ 100000 then (9, x) else if (x.2.1.length : Int) ≥ 60 then (1, x)
  else if (faultM x.2.2.2.1 x.2.2.1).2.2.2 = true then (9, loseM (wrote x n b) (faultM x.2.2.2.1 x.2.2.1).2.1 (faultM x.2.2.2.1 x.2.2.1).2.2.1)
  else (0, wrote x n b)
def packC (r : Int × Dk) : Dc := (r.2.1, r.2.2.1, r.2.2.2.1, r.2.2.2.2.1, r.2.2.2.2.2, r.1)
def writeAll (x : Dk) (n : Int) (b : List Int) : Dc :=
  if diskOkM x.1 x.2.1 x.2.2.1 x.2.2.2.1 x.2.2.2.2 = true ∧ inB n 0 ((x.1.length : Int) - 1) = true ∧ ¬ (b.length : Int) > 256 ∧ ¬ (x.2.1.length : Int) ≥ 60 then packC (writeM x n b) else packC (1, x)
theorem wrote_in {x : Dk} {n : Int} {b : List Int} (hw : wrIn x.1.length x.2.1) (hn : inB n 0 ((x.1.length : Int) - 1) = true) (hb : b.length ≤ 1048576) : wrIn (wrote x n b).1.length (wrote x n b).2.1 := by
  intro w h
  have hi := inB_iff.1 hn
  rcases List.mem_append.1 h with h1 | h1
  · exact hw w h1
  · obtain rfl := List.mem_singleton.1 h1
    exact ⟨hi.1, by unfold wrote; simp only; omega, hb⟩
theorem spec_l12Write.sp {d : Nat} (hd : 2 ≤ d) {x : Dk} (h : dkGood x) {n : Int} {b : List Int} (hn : inB n 0 ((x.1.length : Int) - 1) = true) (hb : b.length ≤ 1048576) : spec_l12Write.f d (x.1, x.2.1, x.2.2.1, x.2.2.2.1, x.2.2.2.2, n, b) = some (writeM x n b) := by
  obtain ⟨d, rfl, _⟩ := dep hd
  rw [spec_l12Write.t_eq]
  dsimp only [spec_l12Write.m]
  obtain ⟨sm, hw, hf, hp1, hp2⟩ := h
  unfold writeM
  refine Tells.eq (tbif (fun c1 => tl (by rw [if_pos c1])) fun c1 => ?_)
  rw [if_neg (by rw [c1]; simp)]
  refine tif (fun c2 => tl (by rw [if_pos c2])) fun c2 => ?_
  rw [if_neg c2]
  refine tif (fun c3 => tl (by rw [if_pos c3])) fun c3 => ?_
  rw [if_neg c3, wrap_id (by omega) (by omega)]
  refine tc (spec_l12Fault.sp (by omega) sm.fit) (tp (by simp; omega) (tp (by simp; omega) (tbif (fun c3 => ?_) fun c3 => ?_)))
  · rw [if_pos c3]
    exact tc (spec_l12Lose.sp (x := wrote x n b) (by omega) (by unfold wrote; simp; omega) (wrote_in hw hn hb) (hf _ (faultM_mem c3))) (tl rfl)
  · rw [if_neg (by rw [c3]; simp)]
    exact tl rfl
theorem wrote_b {x : Dk} (h : dkSm x) {n : Int} {b : List Int} (hb : b.length ≤ 1048577) : dkB (wrote x n b) :=
  ⟨h.b.1, ⟨by have := h.2.1.1; unfold wrote; simp only [List.length_append, List.length_singleton]; omega, fun y hy => by
    rcases List.mem_append.1 hy with h1 | h1
    · exact h.b.2.1.2 y h1
    · obtain rfl := List.mem_singleton.1 h1; exact hb⟩, h.b.2.2⟩
theorem writeAll_b {x : Dk} (h : dkSm x) {n : Int} {b : List Int} (hb : b.length ≤ 1048576) : dkB (dkOf (writeAll x n b)) := by
  have hw : dkB (wrote x n b) := wrote_b h (by omega)
  unfold writeAll
  split
  · unfold writeM
    split
    · exact h.b
    · split
      · exact h.b
      · split
        · exact h.b
        · split
          · exact loseM_b hw
          · exact hw
  · exact h.b
theorem xx_u32 {a b : Nat} (ha : a < 2 ^ 32) (hb : b < 2 ^ 32) : IntKind.wrap IntKind.u32 ((BitVec.ofInt (IntKind.bits IntKind.u32) (a : Int) ^^^ BitVec.ofInt (IntKind.bits IntKind.u32) (b : Int)).toNat : Int) = ((a ^^^ b : Nat) : Int) := xor_u32 a b ha hb
theorem xx_i64 {a b : Nat} (ha : a < 2 ^ 32) (hb : b < 2 ^ 32) : IntKind.wrap IntKind.i64 ((BitVec.ofInt (IntKind.bits IntKind.i64) (a : Int) ^^^ BitVec.ofInt (IntKind.bits IntKind.i64) (b : Int)).toNat : Int) = ((a ^^^ b : Nat) : Int) := xor_i64 a b ha hb
theorem a1_u32 {a : Nat} (ha : a < 2 ^ 32) : IntKind.wrap IntKind.u32 ((BitVec.ofInt (IntKind.bits IntKind.u32) (a : Int) &&& BitVec.ofInt (IntKind.bits IntKind.u32) (1 : Int)).toNat : Int) = (a : Int) % 2 := and1_u32 a ha
theorem a1_i64 {a : Nat} (ha : a < 2 ^ 32) : IntKind.wrap IntKind.i64 ((BitVec.ofInt (IntKind.bits IntKind.i64) (a : Int) &&& BitVec.ofInt (IntKind.bits IntKind.i64) (1 : Int)).toNat : Int) = (a : Int) % 2 := and1_i64 a ha
theorem half (a : Nat) (k : Nat) (hk : 1 ≤ k) : Int.fdiv (a : Int) (2 ^ (min (Int.toNat (1 : Int)) k)) = ((a / 2 : Nat) : Int) := by
  rw [show min (Int.toNat (1 : Int)) k = 1 by simp; omega, show (2 : Int) ^ 1 = 2 from rfl, Int.fdiv_eq_ediv_of_nonneg _ (by omega)]
  omega
/-- eight rounds on one byte -/
theorem eight {A R : Type} (s : (A → Option R) → A → Option R) (mk : Nat → Int → A) (P : R → Prop) {x : Nat} (hx : x < 2 ^ 32)
    (base : ∀ L, Tells (s L (mk (crcN 8 x) 8)) P)
    (step : ∀ L (y j : Nat) Q, y < 2 ^ 32 → j < 8 → Tells (L (mk (crcStep y) ((j + 1 : Nat) : Int))) Q → Tells (s L (mk y (j : Int))) Q) : Tells (iter s rnds (mk x 0)) P := by
  refine loop0 (σ := Nat) s 8 mk (fun y j => y < 2 ^ 32 ∧ crcN (8 - j) y = crcN 8 x) (fun _ _ => P) x (by omega) ⟨hx, rfl⟩ ?_ ?_
  · rintro L y ⟨_, h⟩
    have : y = crcN 8 x := h
    rw [this]
    exact base L
  · rintro L y j ⟨h1, h2⟩ hj ih
    refine step L y j _ h1 hj (ih _ ⟨crcStep_lt h1, ?_⟩)
    rw [← h2, show 8 - j = (8 - (j + 1)) + 1 by omega]
    rfl
theorem byte_wrap_u32 {b : Int} (h0 : 0 ≤ b) (h1 : b ≤ 255) : IntKind.wrap IntKind.u32 b = ((b.toNat : Nat) : Int) := by
  rw [wraps_u32 b h0 (by omega)]; omega
theorem byte_wrap_i64 {b : Int} (h0 : 0 ≤ b) (h1 : b ≤ 255) : IntKind.wrap IntKind.i64 b = ((b.toNat : Nat) : Int) := by
  rw [wrap_id (by omega) (by omega)]; omega
theorem u8_id {x : Int} (h0 : 0 ≤ x) (h1 : x ≤ 255) : IntKind.wrap IntKind.u8 x = x := by
  rw [IntKind.wrap_u8]; omega
theorem shr8 (c : Int) (k : Int) (j : Nat) (hk : k = 8 * (j : Int)) (hj : j ≤ 7) : Int.fdiv c (2 ^ (min (Int.toNat k) (IntKind.bits IntKind.i64))) = c / 256 ^ j := by
  subst hk
  exact shr_at c j hj
theorem text_tail {b : List Int} {at_ c : Nat} {n : Int} (hl : b.length ≤ 1000000000) (n0 : 0 ≤ n) (n1 : n ≤ 1000000) (cl : c ≤ (b.drop at_).length) (hat : at_ ≤ b.length) :
    Tells (bif decide (n > IntKind.wrap IntKind.i64 ((b.length : Int) - ((at_ + c : Nat) : Int))) then some (({ data := #[] } : ByteArray), (0 : Int), false)
      else bif decide ((0 : Int) ≤ ((at_ + c : Nat) : Int)) && decide (((at_ + c : Nat) : Int) ≤ IntKind.wrap IntKind.i64 (((at_ + c : Nat) : Int) + n)) && decide (IntKind.wrap IntKind.i64 (((at_ + c : Nat) : Int) + n) ≤ (b.length : Int)) then
        some (numsStr (List.drop (Int.toNat ((at_ + c : Nat) : Int)) (List.take (Int.toNat (IntKind.wrap IntKind.i64 (((at_ + c : Nat) : Int) + n))) b)), IntKind.wrap IntKind.i64 (((at_ + c : Nat) : Int) + n), true)
      else none) (· = tripT at_ (if n > ((b.drop at_).length : Int) - c then none else some (strOfNums (((b.drop at_).drop c).take n.toNat), c + n.toNat))) := by
  rw [List.length_drop] at cl ⊢
  rw [wrap_id (x := (b.length : Int) - ((at_ + c : Nat) : Int)) (by omega) (by omega), wrap_id (x := ((at_ + c : Nat) : Int) + n) (by omega) (by omega)]
  refine tif (fun g => tl ?_) fun g => ?_
  · rw [if_pos (show n > ((b.length - at_ : Nat) : Int) - c by omega)]; rfl
  · rw [if_neg (show ¬ n > ((b.length - at_ : Nat) : Int) - c by omega)]
    refine tt (by rw [decide_eq_true (by omega), decide_eq_true (by omega), decide_eq_true (by omega)]; rfl) (tl ?_)
    have e : (((at_ + c : Nat) : Int) + n).toNat = at_ + c + n.toNat := by omega
    rw [e, Int.toNat_natCast, List.drop_take, List.drop_drop]
    simp only [tripT]
    rw [show at_ + c + n.toNat - (at_ + c) = n.toNat by omega, show ((at_ + (c + n.toNat) : Nat) : Int) = ((at_ + c : Nat) : Int) + n by omega]
theorem toList_beq {a b : List Int} (ha : ∀ x ∈ a, 0 ≤ x ∧ x ≤ 255) (hb : ∀ x ∈ b, 0 ≤ x ∧ x ≤ 255) : ((numsStr a).toList == (numsStr b).toList) = decide (a = b) := by
  rw [Bool.eq_iff_iff, beq_iff_eq, decide_eq_true_iff]
  exact strOf_eq ha hb
theorem sum_true {b body : List Int} (h : getSumM b = (body, true)) : 4 ≤ b.length ∧ b = body ++ sum4 (crcM body) ∧ body = b.take (b.length - 4) := by
  unfold getSumM at h
  by_cases h4 : b.length < 4
  · rw [if_pos h4] at h; cases h
  · rw [if_neg h4] at h
    split at h
    · rename_i h1
      simp only [Prod.mk.injEq, and_true] at h
      subst h
      exact ⟨by omega, by rw [← h1, List.take_append_drop], rfl⟩
    · cases h
theorem page_back {b body : List Int} {n : Int} {c c2 : Nat} {s : ByteArray} (hb : ∀ x ∈ b, 0 ≤ x ∧ x ≤ 255) (hs : getSumM b = (body, true)) (hu : getUM body = some (n, c)) (ht : getTextM (body.drop c) = some (s, c2)) :
    pageM n (strNums s) = b ↔ c + c2 = body.length ∧ inB n 1 2 = true ∧ s.size ≤ 240 := by
  obtain ⟨h4, e, et⟩ := sum_true hs
  have hbt : ∀ x ∈ body, 0 ≤ x ∧ x ≤ 255 := fun x hx => hb x (by rw [e]; simp [hx])
  obtain ⟨n0, n1, cl, c1, u1, u2⟩ := getUM_exact hbt hu
  have hbd : ∀ x ∈ body.drop c, 0 ≤ x ∧ x ≤ 255 := fun x hx => hbt x (List.mem_of_mem_drop hx)
  obtain ⟨t1, t2, t3⟩ := getTextM_exact hbd ht
  have hsz : (strNums s).length = s.size := bytesOf_length s
  have ulen : (uM n).length = c := by rw [u1, List.length_take]; omega
  rw [List.length_drop] at t1
  unfold pageM
  constructor
  · intro h
    by_cases hc : inB n 1 2 = true ∧ (strNums s).length ≤ 240
    · rw [if_pos hc] at h
      rw [hsz] at hc
      have hbody : body = pageBody n (strNums s) := by
        have h2 : body ++ sum4 (crcM body) = pageBody n (strNums s) ++ sum4 (crcM (pageBody n (strNums s))) := by rw [← e, h]
        exact (List.append_inj' h2 rfl).1
      have hd : body.drop c = txtM s ++ [] := by
        rw [hbody, ← ulen]
        unfold pageBody txtM
        rw [hsz, List.append_assoc, List.drop_left, List.append_nil]
      rw [hd, getTextM_put s (by omega)] at ht
      simp only [Option.some.injEq, Prod.mk.injEq, true_and] at ht
      refine ⟨?_, hc⟩
      have := congrArg List.length hd
      rw [List.length_drop, List.append_nil] at this
      omega
    · rw [if_neg hc] at h
      rw [← h] at h4
      simp at h4
  · rintro ⟨h1, h2, h3⟩
    rw [if_pos ⟨h2, by omega⟩]
    have hd : (body.drop c).drop c2 = [] := List.drop_eq_nil_of_le (by rw [List.length_drop]; omega)
    rw [hd, List.append_nil] at t2
    have : body = pageBody n (strNums s) := by
      conv => lhs; rw [u2, t2]
      unfold pageBody txtM
      rw [hsz, List.append_assoc]
    rw [← this]
    exact e.symm
def pageOf (body : List Int) (ok : Bool) : Int × List Int × Bool := match getUM body with
  | some (n, c) => (match getTextM (body.drop c) with
    | some (s, c2) => if ok = true ∧ c + c2 = body.length ∧ inB n 1 2 = true ∧ s.size ≤ 240 then (n, strNums s, true) else (0, [], false)
    | none => (0, [], false))
  | none => (0, [], false)
def getPageM (b : List Int) : Int × List Int × Bool := pageOf (getSumM b).1 (getSumM b).2
theorem pageOf_none {body : List Int} {ok : Bool} (h : getUM body = none) : pageOf body ok = (0, [], false) := by unfold pageOf; rw [h]
theorem pageOf_no {body : List Int} {ok : Bool} {n : Int} {c : Nat} (h : getUM body = some (n, c)) (h2 : getTextM (body.drop c) = none) : pageOf body ok = (0, [], false) := by unfold pageOf; rw [h]; simp only [h2]
theorem pageOf_some {body : List Int} {ok : Bool} {n : Int} {c c2 : Nat} {s : ByteArray} (h : getUM body = some (n, c)) (h2 : getTextM (body.drop c) = some (s, c2)) :
    pageOf body ok = if ok = true ∧ c + c2 = body.length ∧ inB n 1 2 = true ∧ s.size ≤ 240 then (n, strNums s, true) else (0, [], false) := by unfold pageOf; rw [h]; simp only [h2]
theorem getSumM_len (b : List Int) : (getSumM b).1.length ≤ b.length := by
  unfold getSumM
  split
  · simp
  · split
    · simp only [List.length_take]; omega
    · simp
theorem getSumM_bytes {b : List Int} (hb : ∀ x ∈ b, 0 ≤ x ∧ x ≤ 255) : ∀ x ∈ (getSumM b).1, 0 ≤ x ∧ x ≤ 255 := by
  unfold getSumM
  split
  · intro x hx; cases hx
  · split
    · intro x hx; exact hb x (List.mem_of_mem_take hx)
    · intro x hx; cases hx
theorem pageOf_false {body : List Int} : pageOf body false = (0, [], false) := by
  unfold pageOf
  split
  · split
    · rw [if_neg (by simp)]
    · rfl
  · rfl
theorem getPageM_len (b : List Int) : (getPageM b).2.1.length ≤ 240 := by
  unfold getPageM pageOf
  split
  · split
    · split
      · rename_i s _ _ h
        have : (strNums s).length = s.size := bytesOf_length s
        simp only; omega
      · simp
    · simp
  · simp
theorem okBytes {b : List Int} (h : okV (.row (.one (.int .u8))) b) : ∀ x ∈ b, 0 ≤ x ∧ x ≤ 255 := fun x hx => by
  have h1 := h.2 x hx
  have e1 : IntKind.u8.min = 0 := by decide
  have e2 : IntKind.u8.max = 255 := by decide
  simp only [okC, okV, e1, e2] at h1
  exact h1
theorem and_le_nat (x : Int) (n : Nat) (hn : n < 2 ^ 62) : 0 ≤ Go.bits .and .i64 x (n : Int) ∧ Go.bits .and .i64 x (n : Int) ≤ n := by
  have e : (BitVec.ofInt IntKind.i64.bits ((n : Nat) : Int)).toNat = n := by
    rw [BitVec.ofInt_natCast, BitVec.toNat_ofNat]
    exact Nat.mod_eq_of_lt (Nat.lt_of_lt_of_le hn (Nat.pow_le_pow_right (by decide) (by decide)))
  have h : (BitVec.ofInt IntKind.i64.bits x &&& BitVec.ofInt IntKind.i64.bits ((n : Nat) : Int)).toNat ≤ n := by
    rw [BitVec.toNat_and, e]
    exact Nat.and_le_right
  have g : Go.bits .and .i64 x (n : Int) = IntKind.i64.wrap ((BitVec.ofInt IntKind.i64.bits x &&& BitVec.ofInt IntKind.i64.bits ((n : Nat) : Int)).toNat : Int) := rfl
  rw [g, IntKind.wrap_i64]
  omega
theorem low_byte (x : Int) : 0 ≤ IntKind.wrap IntKind.i64 ((BitVec.ofInt (IntKind.bits IntKind.i64) x &&& BitVec.ofInt (IntKind.bits IntKind.i64) (255 : Int)).toNat : Int) ∧ IntKind.wrap IntKind.i64 ((BitVec.ofInt (IntKind.bits IntKind.i64) x &&& BitVec.ofInt (IntKind.bits IntKind.i64) (255 : Int)).toNat : Int) ≤ 255 := and_le_nat x 255 (by decide)
/-- a cursor over bytes -/
def cur (b : List Int) (p : Int) : Prop := b.length ≤ 1048576 ∧ 0 ≤ p ∧ p ≤ b.length
theorem spec_l1New.sp {d : Nat} (hd : 1 ≤ d) {b : List Int} (hl : b.length ≤ 1048576) : Tells (spec_l1New.f d b) fun r => r.1 = b ∧ cur b r.2.1 := by
  obtain ⟨d, rfl, _⟩ := dep hd
  rw [spec_l1New.t_eq]
  dsimp only [spec_l1New.m]
  refine loop0 (σ := Int) (spec_l1New.S0 d) (min b.length 4000) (fun x i => (b, x, i)) (fun _ _ => True) (fun _ _ r => r.1 = b ∧ cur b r.2.1) _ (by omega) trivial ?_ ?_
  · intro L x _
    have hc : cur b 0 := ⟨hl, by omega, by omega⟩
    dsimp only [spec_l1New.S0, spec_l1New.s0]
    exact tif (fun _ => tif (fun _ => ti (by omega) (by omega)) fun _ => tl ⟨rfl, hc⟩) fun _ => tl ⟨rfl, hc⟩
  · intro L x i _ hi ih
    dsimp only [spec_l1New.S0, spec_l1New.s0]
    refine tp (by omega) (tp (by omega) (ti (by omega) ?_))
    rw [wrap_succ (by omega)]
    exact ih _ trivial
theorem spec_l1Byte.sp {d : Nat} (hd : 1 ≤ d) {b : List Int} {p x : Int} (hc : cur b p) : Tells (spec_l1Byte.f d (b, p, x)) fun r => 0 ≤ r.1 ∧ r.1 ≤ 255 ∧ cur b r.2.1 := by
  obtain ⟨d, rfl, _⟩ := dep hd
  rw [spec_l1Byte.t_eq]
  dsimp only [spec_l1Byte.m]
  obtain ⟨h1, h2, h3⟩ := hc
  refine tp (by decide) (tp (by decide) (tif (fun c => tt (by rw [decide_eq_true h2, decide_eq_true c]; rfl) (tl ?_)) fun c => tl ?_))
  · refine ⟨(low_byte _).1, (low_byte _).2, h1, ?_⟩
    show 0 ≤ IntKind.wrap IntKind.i64 (p + 1) ∧ IntKind.wrap IntKind.i64 (p + 1) ≤ (b.length : Int)
    rw [wrap_id (x := p + 1) (by omega) (by omega)]
    omega
  · exact ⟨(low_byte _).1, (low_byte _).2, h1, h2, h3⟩
theorem spec_l1Below.sp {d : Nat} (hd : 2 ≤ d) {b : List Int} {p x n : Int} (hc : cur b p) : Tells (spec_l1Below.f d (b, p, x, n)) fun r => 0 ≤ r.1 ∧ (0 < n → r.1 < n) ∧ cur b r.2.1 := by
  obtain ⟨d, rfl, _⟩ := dep hd
  rw [spec_l1Below.t_eq]
  dsimp only [spec_l1Below.m]
  refine tif (fun c => tl ⟨by omega, fun h => by omega, hc⟩) fun c => tif (fun c2 => ?_) fun c2 => ?_
  · refine tb (spec_l1Byte.sp (by omega) hc) fun r hr => tp (by omega) (tl ?_)
    rw [Int.tmod_eq_emod_of_nonneg hr.1]
    exact ⟨Int.emod_nonneg _ (by omega), fun _ => Int.emod_lt_of_pos _ (by omega), hr.2.2⟩
  · refine tb (spec_l1Byte.sp (by omega) hc) fun r2 h2 => tb (spec_l1Byte.sp (by omega) h2.2.2) fun r3 h3 => tb (spec_l1Byte.sp (by omega) h3.2.2) fun r4 h4 => tp (by omega) (tl ?_)
    have e : IntKind.wrap IntKind.i64 ((IntKind.wrap IntKind.i64 ((IntKind.wrap IntKind.i64 (r2.1 * (65536 : Int))) + (IntKind.wrap IntKind.i64 (r3.1 * (256 : Int))))) + r4.1) = r2.1 * 65536 + r3.1 * 256 + r4.1 := by
      rw [wrap_id (x := r2.1 * 65536) (by omega) (by omega), wrap_id (x := r3.1 * 256) (by omega) (by omega), wrap_id (x := r2.1 * 65536 + r3.1 * 256) (by omega) (by omega), wrap_id (by omega) (by omega)]
    rw [e, Int.tmod_eq_emod_of_nonneg (by omega)]
    exact ⟨Int.emod_nonneg _ (by omega), fun _ => Int.emod_lt_of_pos _ (by omega), h4.2.2⟩
theorem spec_l1Int.sp {d : Nat} (hd : 3 ≤ d) {b : List Int} {p x : Int} {l : List Int} (hc : cur b p) (h0 : 0 < l.length) : Tells (spec_l1Int.f d (b, p, x, l)) fun r => r.1 ∈ l ∧ cur b r.2.1 := by
  obtain ⟨d, rfl, _⟩ := dep hd
  rw [spec_l1Int.t_eq]
  dsimp only [spec_l1Int.m]
  refine tb (spec_l1Below.sp (by omega) hc) fun r hr => ?_
  have hlt := hr.2.1 (by omega)
  have hi : r.1.toNat < l.length := by omega
  have e : r.1 = ((r.1.toNat : Nat) : Int) := by omega
  rw [e]
  refine ti hi (tl ?_)
  rw [getD_in hi]
  exact ⟨List.getElem_mem hi, hr.2.2⟩
theorem spec_l1Once.sp {d : Nat} (hd : 3 ≤ d) {b : List Int} {p x n : Int} (hc : cur b p) : Tells (spec_l1Once.f d (b, p, x, n)) fun r => cur b r.2.1 := by
  obtain ⟨d, rfl, _⟩ := dep hd
  rw [spec_l1Once.t_eq]
  dsimp only [spec_l1Once.m]
  exact tb (spec_l1Below.sp (by omega) hc) fun r hr => tl hr.2.2
theorem u8_bd (x : Int) : 0 ≤ IntKind.wrap IntKind.u8 x ∧ IntKind.wrap IntKind.u8 x ≤ 255 := by rw [IntKind.wrap_u8]; omega
theorem spec_l1Bytes.sp {d : Nat} (hd : 2 ≤ d) {b : List Int} {p x n : Int} (hc : cur b p) (h0 : 0 ≤ n) (h1 : n ≤ 1000000) : Tells (spec_l1Bytes.f d (b, p, x, n)) fun r => r.1.length = n.toNat ∧ (∀ y ∈ r.1, 0 ≤ y ∧ y ≤ 255) ∧ cur b r.2.1 := by
  obtain ⟨d, rfl, _⟩ := dep hd
  rw [spec_l1Bytes.t_eq]
  dsimp only [spec_l1Bytes.m]
  refine loop0 (σ := Int × Int × List Int) (spec_l1Bytes.S0 d) n.toNat (fun st i => (n, i, b, st.1, st.2.1, st.2.2)) (fun st i => cur b st.1 ∧ st.2.2.length = i ∧ ∀ y ∈ st.2.2, 0 ≤ y ∧ y ≤ 255) (fun _ _ r => r.1.length = n.toNat ∧ (∀ y ∈ r.1, 0 ≤ y ∧ y ≤ 255) ∧ cur b r.2.1) (p, x, []) (by omega) ⟨hc, rfl, fun y hy => by cases hy⟩ ?_ ?_
  · rintro L st ⟨h1, h2, h3⟩
    dsimp only [spec_l1Bytes.S0, spec_l1Bytes.s0]
    exact tn (by omega) (tl ⟨h2, h3, h1⟩)
  · rintro L st i ⟨h1, h2, h3⟩ hi ih
    dsimp only [spec_l1Bytes.S0, spec_l1Bytes.s0]
    refine tp (by omega) (tb (spec_l1Byte.sp (by omega) h1) fun r hr => tp ?_ ?_)
    · simp only [List.length_cons, List.length_nil]; omega
    · rw [wrap_succ (by omega)]
      refine ih (r.2.1, r.2.2, st.2.2 ++ [IntKind.wrap IntKind.u8 r.1]) ⟨hr.2.2, by simp [h2], fun y hy => ?_⟩
      rcases List.mem_append.1 hy with h | h
      · exact h3 y h
      · obtain rfl := List.mem_singleton.1 h
        exact u8_bd _
theorem spec_l1Some.sp {d : Nat} (hd : 4 ≤ d) {b : List Int} {p x : Int} (hc : cur b p) : Tells (spec_l1Some.f d (b, p, x)) fun r => r.1.length ≤ 9 ∧ (∀ y ∈ r.1, 0 ≤ y ∧ y ≤ 255) ∧ cur b r.2.1 := by
  obtain ⟨d, rfl, _⟩ := dep hd
  rw [spec_l1Some.t_eq]
  dsimp only [spec_l1Some.m]
  refine tb (spec_l1Int.sp (by omega) hc (by simp)) fun r hr => ?_
  have h9 : 0 ≤ r.1 ∧ r.1 ≤ 9 := by
    have := hr.1
    simp only [List.mem_cons, List.not_mem_nil, or_false] at this
    omega
  refine tb (spec_l1Bytes.sp (by omega) hr.2 h9.1 (by omega)) fun r2 h2 => tl ⟨?_, h2.2⟩
  have := h2.1
  simp only; omega
theorem laws_big.sp {d : Nat} (hd : 1 ≤ d) (b : List Int) : laws_big.f d b = some (decide ((b.length : Int) > 1048576)) := by
  obtain ⟨d, rfl, _⟩ := dep hd
  rw [laws_big.t_eq]
  rfl
theorem laws_sameBytes.self {d : Nat} (hd : 1 ≤ d) {l : List Int} (hl : l.length ≤ 140737488351232) : laws_sameBytes.f d (l, l) = some true := by
  obtain ⟨d, rfl, _⟩ := dep hd
  rw [laws_sameBytes.t_eq]
  refine Tells.eq ?_
  dsimp only [laws_sameBytes.m]
  refine tf (by simp) ?_
  refine loopE (laws_sameBytes.S0 d) l.length (fun i => (l, l, i)) (fun _ r => r = true) (by omega) (fun L => ?_) fun L i hi ih => ?_
  · dsimp only [laws_sameBytes.S0, laws_sameBytes.s0]
    exact tn (by omega) (tl rfl)
  · dsimp only [laws_sameBytes.S0, laws_sameBytes.s0]
    refine tp (by omega) (ti hi (ti hi (tf (by simp) ?_)))
    rwa [wrap_succ (by omega)]
theorem page_parts {n : Int} {l : List Int} (hn : inB n 1 2 = true) (hl : l.length ≤ 240) (hb : ∀ x ∈ l, 0 ≤ x ∧ x ≤ 255) :
    getUM (pageBody n l) = some (n, (uM n).length) ∧ (pageBody n l).drop (uM n).length = txtM (numsStr l) ∧ (pageBody n l).length = (uM n).length + (txtM (numsStr l)).length ∧ strNums (numsStr l) = l ∧ (numsStr l).size = l.length := by
  have h := inB_iff.1 hn
  have e2 : (strOfNums l).size = l.length := strOfNums_size l
  have e := bytesOf_strOf l hb
  have hd : (pageBody n l).drop (uM n).length = txtM (numsStr l) := by
    unfold pageBody txtM
    rw [e2, e, List.append_assoc, List.drop_left]
  refine ⟨?_, hd, ?_, e, e2⟩
  · unfold pageBody
    rw [List.append_assoc, getUM_put n (by omega) (by omega)]
  · rw [← hd, List.length_drop]
    unfold pageBody
    simp only [List.length_append]
    omega
theorem getPage_put {n : Int} {l : List Int} (hn : inB n 1 2 = true) (hl : l.length ≤ 240) (hb : ∀ x ∈ l, 0 ≤ x ∧ x ≤ 255) : getPageM (pageM n l) = (n, l, true) := by
  obtain ⟨h1, h2, h3, h4, h5⟩ := page_parts hn hl hb
  have hS : getSumM (pageM n l) = (pageBody n l, true) := by
    have ep : pageM n l = pageBody n l ++ sum4 (crcM (pageBody n l)) := by unfold pageM; rw [if_pos ⟨hn, hl⟩]
    rw [ep]
    unfold getSumM
    have l4 : (sum4 (crcM (pageBody n l))).length = 4 := rfl
    rw [if_neg (by rw [List.length_append, l4]; omega)]
    have e : (pageBody n l ++ sum4 (crcM (pageBody n l))).length - 4 = (pageBody n l).length := by rw [List.length_append, l4]; omega
    rw [e, List.take_left, List.drop_left, if_pos rfl]
  unfold getPageM
  rw [hS]
  have ht : getTextM ((pageBody n l).drop (uM n).length) = some (numsStr l, (txtM (numsStr l)).length) := by
    have := getTextM_put (numsStr l) (by omega) []
    rw [List.append_nil] at this
    rw [h2, this]
  rw [pageOf_some h1 ht, if_pos ⟨rfl, h3.symm, hn, by omega⟩, h4]
theorem getPage_cut {n : Int} {l : List Int} {k : Nat} (hn : inB n 1 2 = true) (hl : l.length ≤ 240) (hb : ∀ x ∈ l, 0 ≤ x ∧ x ≤ 255) (hk : k < (pageM n l).length) : (getPageM ((pageM n l).take k)).2.2 = false := by
  obtain ⟨h1, h2, h3, h4, h5⟩ := page_parts hn hl hb
  have ep : pageM n l = pageBody n l ++ sum4 (crcM (pageBody n l)) := by unfold pageM; rw [if_pos ⟨hn, hl⟩]
  have l4 : (sum4 (crcM (pageBody n l))).length = 4 := rfl
  have hpb := pageBody_bytes n l hb
  unfold getPageM
  cases hS : getSumM ((pageM n l).take k) with
  | mk body ok =>
  cases ok with
  | false => rw [pageOf_false]
  | true =>
    obtain ⟨g4, ge, gt⟩ := sum_true hS
    rw [List.length_take] at g4 gt
    rw [ep, List.length_append, l4] at hk
    have ebody : body = (pageBody n l).take (k - 4) := by
      rw [gt, List.take_take, ep]
      have e1 : min (min k (pageBody n l ++ sum4 (crcM (pageBody n l))).length - 4) k = k - 4 := by
        rw [List.length_append, l4]; omega
      rw [e1, List.take_append_of_le_length (by omega)]
    have hbb : ∀ x ∈ body, 0 ≤ x ∧ x ≤ 255 := fun x hx => by rw [ebody] at hx; exact hpb x (List.mem_of_mem_take hx)
    have hfull : pageBody n l = body ++ (pageBody n l).drop (k - 4) := by rw [ebody, List.take_append_drop]
    have hrest : 0 < ((pageBody n l).drop (k - 4)).length := by rw [List.length_drop]; omega
    unfold pageOf
    split
    · rename_i n' c' hu
      split
      · rename_i s c2 ht
        split
        · rename_i hc
          exfalso
          obtain ⟨_, hc1, hc2, hc3⟩ := hc
          simp only at hc1
          obtain ⟨n0, n1, cl, c1, u1, u2⟩ := getUM_exact hbb hu
          have hbd : ∀ x ∈ body.drop c', 0 ≤ x ∧ x ≤ 255 := fun x hx => hbb x (List.mem_of_mem_drop hx)
          obtain ⟨t1, t2, t3⟩ := getTextM_exact hbd ht
          have hd : (body.drop c').drop c2 = [] := List.drop_eq_nil_of_le (by rw [List.length_drop]; omega)
          rw [hd, List.append_nil] at t2
          rw [t2] at u2
          -- the whole body, read twice
          generalize hR : (pageBody n l).drop (k - 4) = R at hfull hrest
          have hfull2 : pageBody n l = uM n' ++ (txtM s ++ R) := by rw [hfull, u2, List.append_assoc]
          rw [hfull2, getUM_put n' n0 n1] at h1
          simp only [Option.some.injEq, Prod.mk.injEq] at h1
          obtain ⟨rfl, _⟩ := h1
          rw [hfull2, List.drop_left] at h2
          have g1 := getTextM_put s (by omega) R
          have g2 := getTextM_put (numsStr l) (by omega) []
          rw [h2, ← List.append_nil (txtM (numsStr l)), g2] at g1
          simp only [Option.some.injEq, Prod.mk.injEq] at g1
          have := congrArg List.length h2
          rw [List.length_append, ← g1.2] at this
          omega
        · rfl
      · rfl
    · rfl
theorem getPage_turned {n : Int} {l : List Int} {j : Nat} {c : Int} (hn : inB n 1 2 = true) (hl : l.length ≤ 240) (hb : ∀ x ∈ l, 0 ≤ x ∧ x ≤ 255) (hj : j < (pageM n l).length) (hc0 : 0 ≤ c) (hc : c ≤ 255) (hne : c ≠ (pageM n l)[j]) : (getPageM ((pageM n l).set j c)).2.2 = false := by
  have ep : pageM n l = pageBody n l ++ sum4 (crcM (pageBody n l)) := by unfold pageM; rw [if_pos ⟨hn, hl⟩]
  have hz : (pageBody n l ++ sum4 (crcM (pageBody n l)))[j]? = some (pageM n l)[j] := by rw [← ep]; simp [hj]
  have := getSumM_turn (pageBody n l) j c _ (pageBody_bytes n l hb) hz hc0 hc hne
  unfold getPageM
  rw [ep, this, pageOf_false]
/-- a disk's bytes are bytes -/
def dkBytes (x : Dk) : Prop := (∀ y ∈ x.1, ∀ z ∈ y, 0 ≤ z ∧ z ≤ 255) ∧ ∀ w ∈ x.2.1, ∀ z ∈ w.2, 0 ≤ z ∧ z ≤ 255
theorem dkOk.bytes {x : Dk} (h : dkOk x) : dkBytes x := ⟨fun y hy => okBytes (h.1.2 y hy), fun w hw => okBytes (h.2.1.2 w hw).2⟩
theorem readM_bytes {x : Dk} {n : Int} (h : dkBytes x) : ∀ z ∈ (readM x n).1, 0 ≤ z ∧ z ≤ 255 := by
  unfold readM
  split
  · rename_i hn
    have := inB_iff.1 hn
    have hi : n.toNat < x.1.length := by omega
    refine lastW_mem (P := fun l => ∀ z ∈ l, 0 ≤ z ∧ z ≤ 255) ?_ h.2
    rw [List.getD_eq_getElem?_getD, List.getElem?_eq_getElem hi]
    exact h.1 _ (List.getElem_mem hi)
  · intro z hz; cases hz
def pageAtM (x : Dk) (n k : Int) : List Int × Bool := if (readM x n).2 = true ∧ (getPageM (readM x n).1).2.2 = true ∧ (getPageM (readM x n).1).1 = k then ((getPageM (readM x n).1).2.1, true) else ([], false)
theorem pageAt_tail (x : Dk) (n k : Int) : Tells (bif !(readM x n).2 then some (([] : List Int), false) else bif !(getPageM (readM x n).1).2.2 then some (([] : List Int), false) else bif (getPageM (readM x n).1).1 != k then some (([] : List Int), false) else some ((getPageM (readM x n).1).2.1, true)) (· = pageAtM x n k) := by
  unfold pageAtM
  refine tbif (fun h => tl ?_) fun h => tbif (fun h2 => tl ?_) fun h2 => tbif (fun h3 => tl ?_) fun h3 => tl ?_
  · simp only [Bool.not_eq_true'] at h; rw [if_neg (fun c => by rw [c.1] at h; cases h)]
  · simp only [Bool.not_eq_true'] at h2; rw [if_neg (fun c => by rw [c.2.1] at h2; cases h2)]
  · rw [if_neg (fun c => by rw [c.2.2] at h3; simp at h3)]
  · simp only [Bool.not_eq_false'] at h h2
    rw [if_pos ⟨h, h2, by simpa using h3⟩]
theorem pageAtM_len (x : Dk) (n k : Int) : (pageAtM x n k).1.length ≤ 240 := by
  unfold pageAtM
  split
  · exact getPageM_len _
  · simp
theorem faultsM_of : ∀ {l : List (Int × Int × Int)} {o : Option (Int × Int × Int)}, (∀ f ∈ l, fOk f = true) → l.Pairwise (fun (a b : Int × Int × Int) => a.1 < b.1) → (∀ y, o = some y → ∀ f ∈ l, y.1 < f.1) → faultsM o l = true
  | [], _, _, _, _ => rfl
  | x :: r, o, h1, h2, h3 => by
    have hr := faultsM_of (l := r) (o := some x) (fun f hf => h1 f (by simp [hf])) (List.pairwise_cons.1 h2).2 (fun y hy f hf => by
      obtain rfl := Option.some.inj hy
      exact (List.pairwise_cons.1 h2).1 f hf)
    simp only [faultsM, h1 x (by simp), Bool.true_and]
    cases o with
    | none => exact hr
    | some y =>
      have := h3 y rfl x (by simp)
      simp only [hr, Bool.and_true, Bool.not_eq_true', decide_eq_false_iff_not]
      omega
def drawnF (l : List (Int × Int × Int)) : Prop := l.length ≤ 4 ∧ faultsM none l = true
theorem spec_l12FaultList.sp {d : Nat} (hd : 4 ≤ d) {b : List Int} {p x : Int} (hc : cur b p) : Tells (spec_l12FaultList.f d (b, p, x)) fun r => drawnF r.1 ∧ cur b r.2.1 := by
  obtain ⟨d, rfl, _⟩ := dep hd
  rw [spec_l12FaultList.t_eq]
  dsimp only [spec_l12FaultList.m]
  refine tb (spec_l1Below.sp (by omega) hc) fun r1 h1 => ?_
  have h4 := h1.2.1 (by omega)
  have ez : r1.1 = ((r1.1.toNat : Nat) : Int) - (0 : Int) := by omega
  have hstart : Tells (iter (spec_l12FaultList.S0 d) rnds ((0 : Int), ((r1.1.toNat : Nat) : Int) - (0 : Int), b, r1.2.1, r1.2.2, ([] : List (Int × Int × Int)))) fun r => drawnF r.1 ∧ cur b r.2.1 := by
    refine loop0 (σ := Int × Int × Int × List (Int × Int × Int)) (spec_l12FaultList.S0 d) r1.1.toNat (fun st i => (st.1, ((r1.1.toNat : Nat) : Int) - i, b, st.2.1, st.2.2.1, st.2.2.2))
      (fun st i => cur b st.2.1 ∧ 0 ≤ st.1 ∧ st.1 ≤ 12 * i ∧ st.2.2.2.length = i ∧ (∀ f ∈ st.2.2.2, fOk f = true) ∧ st.2.2.2.Pairwise (fun (a b : Int × Int × Int) => a.1 < b.1) ∧ ∀ f ∈ st.2.2.2, f.1 < st.1) (fun _ _ r => drawnF r.1 ∧ cur b r.2.1) (0, r1.2.1, r1.2.2, []) (by omega)
      ⟨h1.2.2, by omega, by omega, rfl, fun f hf => (by cases hf), List.Pairwise.nil, fun f hf => by cases hf⟩ ?_ ?_
    · rintro L st ⟨a1, a2, a3, a4, a5, a6, a7⟩
      dsimp only [spec_l12FaultList.S0, spec_l12FaultList.s0]
      have a8 : st.2.2.2.length ≤ 4 := by omega
      exact tn (by omega) (tl ⟨⟨a8, faultsM_of a5 a6 (fun y hy => by cases hy)⟩, a1⟩)
    · rintro L st i ⟨a1, a2, a3, a4, a5, a6, a7⟩ hi ih
      dsimp only [spec_l12FaultList.S0, spec_l12FaultList.s0]
      refine tp (by omega) (tb (spec_l1Below.sp (by omega) a1) fun r2 h2 => tb (spec_l1Below.sp (by omega) h2.2.2) fun r3 h3 => tb (spec_l1Int.sp (by omega) h3.2.2 (by simp)) fun r4 h4 => tb (spec_l1Int.sp (by omega) h4.2 (by simp)) fun r5 h5 => tp (by simp; omega) ?_)
      have b2 := h2.2.1 (by omega)
      have b3 := h3.2.1 (by omega)
      have m4 := h4.1
      have m5 := h5.1
      simp only [List.mem_cons, List.not_mem_nil, or_false] at m4 m5
      rw [wrap_id (x := st.1 + r2.1) (by omega) (by omega), wrap_id (x := st.1 + r2.1 + 1) (by omega) (by omega), wrap_id (x := ((r1.1.toNat : Nat) : Int) - (i : Int) - 1) (by omega) (by omega), show ((r1.1.toNat : Nat) : Int) - (i : Int) - 1 = ((r1.1.toNat : Nat) : Int) - ((i + 1 : Nat) : Int) by omega]
      refine ih (st.1 + r2.1 + 1, r5.2.1, r5.2.2, st.2.2.2 ++ [(st.1 + r2.1, r4.1, r5.1)]) ⟨h5.2, by simp only; omega, by simp only; omega, by simp [a4], fun f hf => ?_, ?_, fun f hf => ?_⟩
      · rcases List.mem_append.1 hf with h | h
        · exact a5 f h
        · obtain rfl := List.mem_singleton.1 h
          unfold fOk
          simp only [Bool.and_eq_true]
          exact ⟨inB_iff.2 ⟨by omega, by omega⟩, inB_iff.2 ⟨by omega, by omega⟩, inB_iff.2 ⟨by omega, by omega⟩⟩
      · rw [List.pairwise_append]
        refine ⟨a6, List.pairwise_singleton _ _, fun f hf g hg => ?_⟩
        obtain rfl := List.mem_singleton.1 hg
        have := a7 f hf
        simp only; omega
      · rcases List.mem_append.1 hf with h | h
        · have := a7 f h
          simp only; omega
        · obtain rfl := List.mem_singleton.1 h
          simp only; omega
  rw [← ez] at hstart
  exact hstart
/-- a disk that was drawn -/
structure dkI (x : Dk) : Prop where
  n : 4 ≤ x.1.length ∧ x.1.length ≤ 7
  s : ∀ y ∈ x.1, y.length ≤ 9 ∧ ∀ z ∈ y, 0 ≤ z ∧ z ≤ 255
  k : x.2.1.length ≤ 60
  w : ∀ w ∈ x.2.1, 0 ≤ w.1 ∧ w.1 < x.1.length ∧ w.2.length ≤ 9 ∧ ∀ z ∈ w.2, 0 ≤ z ∧ z ≤ 255
  f : drawnF x.2.2.2.1
theorem drawnF.cut {l : List (Int × Int × Int)} (h : faultsM none l = true) : ∀ f ∈ l, 0 ≤ f.2.2 := by
  have key : ∀ (l : List (Int × Int × Int)) (o : Option (Int × Int × Int)), faultsM o l = true → ∀ f ∈ l, 0 ≤ f.2.2 := by
    intro l
    induction l with
    | nil => intro _ _ f hf; cases hf
    | cons a r ih =>
      intro o ho f hf
      simp only [faultsM, Bool.and_eq_true] at ho
      obtain ⟨ha, hr⟩ := ho
      rcases List.mem_cons.1 hf with rfl | hf
      · unfold fOk at ha
        simp only [Bool.and_eq_true] at ha
        exact (inB_iff.1 ha.2.2).1
      · cases o with
        | none => exact ih _ hr f hf
        | some y =>
          simp only [Bool.and_eq_true] at hr
          exact ih _ hr.2 f hf
  exact key l none h
theorem small_of {x : Dk} {a b c k : Nat} (h1 : x.1.length ≤ a) (h2 : ∀ y ∈ x.1, y.length ≤ k) (h3 : x.2.1.length ≤ b) (h4 : ∀ w ∈ x.2.1, w.2.length ≤ k) (h5 : x.2.2.2.1.length ≤ c) (ha : a ≤ 1000) (hb : b ≤ 1000) (hc : c ≤ 1000) (hk : k ≤ 1000) : dkSm x := by
  refine ⟨⟨by omega, fun y hy => by have := h2 y hy; omega⟩, ⟨by omega, fun y hy => by have := h4 y hy; omega⟩, by omega, ?_⟩
  unfold dkW
  have g1 := wSum_le (w := List.length) h2
  have g2 := wSum_le (w := ww) (k := k + 1) (l := x.2.1) fun y hy => by have := h4 y hy; unfold ww; omega
  have g3 := sum_three x.2.2.2.1
  have m1 : x.1.length * k ≤ 1000 * 1000 := Nat.mul_le_mul (by omega) hk
  have m2 : x.2.1.length * (k + 1) ≤ 1000 * 1001 := Nat.mul_le_mul (by omega) (by omega)
  omega
theorem dkI.sm {x : Dk} (h : dkI x) : dkSm x := small_of (a := 7) (b := 60) (c := 4) (k := 9) h.n.2 (fun y hy => (h.s y hy).1) h.k (fun w hw => (h.w w hw).2.2.1) h.f.1 (by omega) (by omega) (by omega) (by omega)
theorem dkI.good {x : Dk} (h : dkI x) (hp : -1000000000 ≤ x.2.2.1 ∧ x.2.2.1 ≤ 1000000000) : dkGood x :=
  ⟨h.sm, fun w hw => ⟨(h.w w hw).1, (h.w w hw).2.1, by have := (h.w w hw).2.2.1; omega⟩, drawnF.cut h.f.2, hp.2, hp.1⟩
theorem loseM_I {x : Dk} (h : dkI x) {m c : Int} : dkI (loseM x m c) where
  n := by unfold loseM; rw [applyW_len]; exact h.n
  s := applyW_all (P := fun y => y.length ≤ 9 ∧ ∀ z ∈ y, 0 ≤ z ∧ z ≤ 255) h.s (by
    intro w hw
    unfold cutLast at hw
    split at hw
    · cases hw
    · rename_i v hv
      have hm := keptW_mem (List.mem_of_getLast? hv)
      rcases List.mem_append.1 hw with h1 | h1
      · have := h.w w (keptW_mem (List.dropLast_subset _ h1))
        exact this.2.2
      · obtain rfl := List.mem_singleton.1 h1
        have := h.w v hm
        refine ⟨?_, fun z hz => this.2.2.2 z (List.mem_of_mem_take hz)⟩
        simp only [cutW, List.length_take]
        have := this.2.2.1
        omega)
  k := Nat.zero_le _
  w := fun w hw => by cases hw
  f := h.f
theorem pulsed_I {x : Dk} (h : dkI x) : dkI (pulsed x) := ⟨h.n, h.s, h.k, h.w, h.f⟩
theorem flushM_I {x : Dk} (h : dkI x) : dkI (flushM x).2 := by
  unfold flushM
  split
  · exact h
  · split
    · exact h
    · split
      · exact loseM_I (pulsed_I h)
      · exact ⟨by rw [applyW_len]; exact h.n, applyW_all (P := fun y => y.length ≤ 9 ∧ ∀ z ∈ y, 0 ≤ z ∧ z ≤ 255) h.s fun w hw => (h.w w hw).2.2, Nat.zero_le _, fun w hw => (by cases hw), h.f⟩
theorem flushM_p {x : Dk} {k : Int} (h : 0 ≤ x.2.2.1 ∧ x.2.2.1 ≤ k) : 0 ≤ (flushM x).2.2.2.1 ∧ (flushM x).2.2.2.1 ≤ k + 1 := by
  unfold flushM
  split
  · simp only; omega
  · split
    · simp only; omega
    · split
      · simp only [loseM, pulsed]; omega
      · simp only; omega
theorem wrote_I {x : Dk} (h : dkI x) {n : Int} {b : List Int} (hk : ¬ (x.2.1.length : Int) ≥ 60) (hn : 0 ≤ n ∧ n < x.1.length) (hb : b.length ≤ 9 ∧ ∀ z ∈ b, 0 ≤ z ∧ z ≤ 255) : dkI (wrote x n b) where
  n := h.n
  s := h.s
  k := by unfold wrote; simp only [List.length_append, List.length_singleton]; omega
  w := fun w hw => by
    rcases List.mem_append.1 hw with h1 | h1
    · exact h.w w h1
    · obtain rfl := List.mem_singleton.1 h1
      exact ⟨hn.1, hn.2, hb⟩
  f := h.f
theorem writeM_I {x : Dk} (h : dkI x) {n : Int} {b : List Int} (hn : 0 ≤ n ∧ n < x.1.length) (hb : b.length ≤ 9 ∧ ∀ z ∈ b, 0 ≤ z ∧ z ≤ 255) : dkI (writeM x n b).2 := by
  unfold writeM
  split
  · exact h
  · split
    · exact h
    · split
      · exact h
      · rename_i hk
        split
        · exact loseM_I (wrote_I h hk hn hb)
        · exact wrote_I h hk hn hb
theorem writeM_p {x : Dk} {n k : Int} {b : List Int} (h : 0 ≤ x.2.2.1 ∧ x.2.2.1 ≤ k) : 0 ≤ (writeM x n b).2.2.2.1 ∧ (writeM x n b).2.2.2.1 ≤ k + 1 := by
  unfold writeM
  split
  · simp only; omega
  · split
    · simp only; omega
    · split
      · simp only; omega
      · split
        · simp only [loseM, wrote]; omega
        · simp only [wrote]; omega
theorem newDk_I {n : Int} {fs : List (Int × Int × Int)} (hn : 4 ≤ n ∧ n ≤ 7) (hf : drawnF fs) : dkI (newDk n fs) ∧ (newDk n fs).2.2.1 = 0 := by
  unfold newDk
  have h1 : faultsOkM fs = true := by
    unfold faultsOkM
    rw [hf.2, decide_eq_true (by have := hf.1; omega)]; rfl
  rw [if_pos ⟨inB_iff.2 ⟨by omega, by omega⟩, h1⟩]
  exact ⟨⟨by simp; omega, fun y hy => by rw [(List.mem_replicate.1 hy).2]; simp, by simp, fun w hw => (by cases hw), hf⟩, rfl⟩
def curOf (r : (List (List Int)) × (List (Int × (List Int))) × Int × (List (Int × Int × Int)) × Bool × Int × Int) : Dk := (r.1, r.2.1, r.2.2.1, r.2.2.2.1, r.2.2.2.2.1)
theorem spec_l12Draw.sp {d : Nat} (hd : 5 ≤ d) {b : List Int} {p x : Int} (hc : cur b p) : Tells (spec_l12Draw.f d (b, p, x)) fun r => dkI (curOf r) ∧ cur b r.2.2.2.2.2.1 := by
  obtain ⟨d, rfl, _⟩ := dep hd
  rw [spec_l12Draw.t_eq]
  dsimp only [spec_l12Draw.m]
  refine tb (spec_l1Below.sp (by omega) hc) fun r1 h1 => tb (spec_l12FaultList.sp (by omega) h1.2.2) fun r2 h2 => ?_
  have b1 := h1.2.1 (by omega)
  rw [wrap_id (x := 4 + r1.1) (by omega) (by omega)]
  obtain ⟨i0, p0⟩ := newDk_I (n := 4 + r1.1) (fs := r2.1) ⟨by omega, by omega⟩ h2.1
  refine tc (spec_DiskNew.sp (by omega) (by have := h2.1.1; omega)) (tb (spec_l1Below.sp (by omega) h2.2) fun r4 h4 => ?_)
  have b4 := h4.2.1 (by omega)
  revert i0 p0
  generalize newDk (4 + r1.1) r2.1 = D
  intro i0 p0
  have ez : r4.1 = ((r4.1.toNat : Nat) : Int) - (0 : Int) := by omega
  have hstart : Tells (iter (spec_l12Draw.S0 d) rnds (((r4.1.toNat : Nat) : Int) - (0 : Int), b, r4.2.1, r4.2.2, ([] : List (List Int)), ([] : List (Int × (List Int))), (0 : Int), ([] : List (Int × Int × Int)), false, D.1, D.2.1, D.2.2.1, D.2.2.2.1, D.2.2.2.2)) fun r => dkI (curOf r) ∧ cur b r.2.2.2.2.2.1 := by
    refine loop0 (σ := Int × Int × Dk) (spec_l12Draw.S0 d) r4.1.toNat (fun st i => (((r4.1.toNat : Nat) : Int) - i, b, st.1, st.2.1, ([] : List (List Int)), ([] : List (Int × (List Int))), (0 : Int), ([] : List (Int × Int × Int)), false, st.2.2.1, st.2.2.2.1, st.2.2.2.2.1, st.2.2.2.2.2.1, st.2.2.2.2.2.2))
      (fun st i => cur b st.1 ∧ dkI st.2.2 ∧ 0 ≤ st.2.2.2.2.1 ∧ st.2.2.2.2.1 ≤ i) (fun _ _ r => dkI (curOf r) ∧ cur b r.2.2.2.2.2.1) (r4.2.1, r4.2.2, D) (by omega) ⟨h4.2.2, i0, by simp only [p0]; omega, by simp only [p0]; omega⟩ ?_ ?_
    · rintro L st ⟨a1, a2, a3, a4⟩
      dsimp only [spec_l12Draw.S0, spec_l12Draw.s0]
      exact tn (by omega) (tl ⟨a2, a1⟩)
    · rintro L ⟨sp, sx, X⟩ i ⟨a1, a2, a3, a4⟩ hi ih
      simp only at a1 a2 a3 a4 ih ⊢
      dsimp only [spec_l12Draw.S0, spec_l12Draw.s0]
      rw [wrap_id (x := ((r4.1.toNat : Nat) : Int) - (i : Int) - 1) (by omega) (by omega), show ((r4.1.toNat : Nat) : Int) - (i : Int) - 1 = ((r4.1.toNat : Nat) : Int) - ((i + 1 : Nat) : Int) by omega]
      refine tp (by omega) (tb (spec_l1Below.sp (by omega) a1) fun r5 h5 => tbif (fun _ => ?_) fun _ => tbif (fun _ => ?_) fun _ => ?_)
      · refine tc (spec_l12Flush.sp (by omega) (a2.good ⟨by omega, by omega⟩)) ?_
        have hp := flushM_p (x := X) (k := (i : Int)) ⟨a3, a4⟩
        exact ih (r5.2.1, r5.2.2, (flushM X).2) ⟨h5.2.2, flushM_I a2, hp.1, by simp only; omega⟩
      · exact ih (r5.2.1, r5.2.2, (X.1, X.2.1, X.2.2.1, X.2.2.2.1, false)) ⟨h5.2.2, ⟨a2.n, a2.s, a2.k, a2.w, a2.f⟩, a3, by simp only; omega⟩
      · refine tb (spec_l1Below.sp (by omega) h5.2.2) fun r7 h7 => tb (spec_l1Some.sp (by omega) h7.2.2) fun r8 h8 => ?_
        have hn := a2.n
        have b7 := h7.2.1 (by omega)
        refine tc (spec_l12Write.sp (by omega) (a2.good ⟨by omega, by omega⟩) (inB_iff.2 ⟨h7.1, by omega⟩) (by have := h8.1; omega)) ?_
        have hp := writeM_p (x := X) (n := r7.1) (b := r8.1) (k := (i : Int)) ⟨a3, a4⟩
        exact ih (r8.2.1, r8.2.2, (writeM X r7.1 r8.1).2) ⟨h8.2.2, writeM_I a2 ⟨h7.1, b7⟩ ⟨h8.1, h8.2.1⟩, hp.1, by simp only; omega⟩
  rw [← ez] at hstart
  exact hstart
/-- a disk that was drawn, and bent -/
structure dkV (x : Dk) : Prop where
  n : x.1.length ≤ 7
  s : ∀ y ∈ x.1, y.length ≤ 300 ∧ ∀ z ∈ y, 0 ≤ z ∧ z ≤ 255
  k : x.2.1.length ≤ 61
  w : ∀ w ∈ x.2.1, w.2.length ≤ 300 ∧ ∀ z ∈ w.2, 0 ≤ z ∧ z ≤ 255
  f : x.2.2.2.1.length ≤ 5
theorem dkV.sm {x : Dk} (h : dkV x) : dkSm x := small_of (a := 7) (b := 61) (c := 5) (k := 300) h.n (fun y hy => (h.s y hy).1) h.k (fun w hw => (h.w w hw).1) h.f (by omega) (by omega) (by omega) (by omega)
theorem dkV.bytes {x : Dk} (h : dkV x) : dkBytes x := ⟨fun y hy => (h.s y hy).2, fun w hw => (h.w w hw).2⟩
theorem dkI.v {x : Dk} (h : dkI x) : dkV x := ⟨h.n.2, fun y hy => ⟨by have := (h.s y hy).1; omega, (h.s y hy).2⟩, by have := h.k; omega, fun w hw => ⟨by have := (h.w w hw).2.2.1; omega, (h.w w hw).2.2.2⟩, by have := h.f.1; omega⟩
theorem spec_l12Any.sp {d : Nat} (hd : 6 ≤ d) {b : List Int} {p x : Int} (hc : cur b p) : Tells (spec_l12Any.f d (b, p, x)) fun r => dkV (curOf r) ∧ cur b r.2.2.2.2.2.1 := by
  obtain ⟨d, rfl, _⟩ := dep hd
  rw [spec_l12Any.t_eq]
  dsimp only [spec_l12Any.m]
  refine tb (spec_l12Draw.sp (by omega) hc) fun r1 h1 => tb (spec_l1Below.sp (by omega) h1.2) fun r2 h2 => ?_
  obtain ⟨h1, -⟩ := h1
  have hv := h1.v
  have hn := h1.n
  have hk := h1.k
  have hf := h1.f.1
  refine tbif (fun _ => tb (spec_l1Int.sp (by omega) h2.2.2 (by simp)) fun r3 h3 => tl ⟨⟨hv.n, hv.s, hv.k, hv.w, hv.f⟩, h3.2⟩) fun _ => tbif (fun _ => ?_) fun _ => tbif (fun _ => ?_) fun _ => tbif (fun _ => ?_) fun _ => tbif (fun _ => ?_) fun _ => tbif (fun _ => ?_) fun _ => tl ⟨⟨hv.n, hv.s, hv.k, hv.w, hv.f⟩, h2.2.2⟩
  · refine tb (spec_l1Int.sp (by omega) h2.2.2 (by simp)) fun r4 h4 => tb (spec_l1Int.sp (by omega) h4.2 (by simp)) fun r5 h5 => tp ?_ (tl ⟨⟨hv.n, hv.s, hv.k, hv.w, ?_⟩, h5.2⟩)
    · have : r1.2.2.2.1.length ≤ 4 := hf
      simp only [List.length_cons, List.length_nil]; omega
    · have : r1.2.2.2.1.length ≤ 4 := hf
      show (r1.2.2.2.1 ++ [(r4.1, r5.1, 0)]).length ≤ 5
      simp only [List.length_append, List.length_cons, List.length_nil]; omega
  · refine tb (spec_l1Int.sp (by omega) h2.2.2 (by simp)) fun r6 h6 => tb (spec_l1Some.sp (by omega) h6.2) fun r7 h7 => tp ?_ (tl ⟨⟨hv.n, hv.s, ?_, ?_, hv.f⟩, h7.2.2⟩)
    · have : r1.2.1.length ≤ 60 := hk
      simp only [List.length_cons, List.length_nil]; omega
    · have : r1.2.1.length ≤ 60 := hk
      show (r1.2.1 ++ [(r6.1, r7.1)]).length ≤ 61
      simp only [List.length_append, List.length_cons, List.length_nil]; omega
    · intro w hw
      rcases List.mem_append.1 hw with h | h
      · exact hv.w w h
      · obtain rfl := List.mem_singleton.1 h
        exact ⟨by have := h7.1; simp only; omega, h7.2.1⟩
  · refine tb (spec_l1Below.sp (by omega) h2.2.2) fun r8 h8 => ?_
    have b8 := h8.2.1 (by omega)
    have hpos : 0 < r1.1.length := by have : 4 ≤ r1.1.length := hn.1; omega
    rw [wrap_id (x := 256 + r8.1) (by omega) (by omega)]
    refine tt (by rw [decide_eq_true (by omega), decide_eq_true (by omega), decide_eq_true (by omega)]; rfl) (tt (by rw [decide_eq_true (by omega), decide_eq_true (by omega)]; rfl) (tl ⟨⟨?_, ?_, hv.k, hv.w, hv.f⟩, h8.2.2⟩))
    · show (List.set r1.1 _ _).length ≤ 7
      rw [List.length_set]; exact hv.n
    · intro y hy
      rcases List.mem_or_eq_of_mem_set hy with h | h
      · exact hv.s y h
      · rw [h]
        refine ⟨by simp only [List.length_replicate]; omega, fun z hz => ?_⟩
        rw [(List.mem_replicate.1 hz).2]; omega
  · have h4 : 4 ≤ r1.1.length := hn.1
    refine tt (by rw [decide_eq_true (by omega), decide_eq_true (by omega), decide_eq_true (by omega)]; rfl) (tl ⟨⟨?_, fun y hy => hv.s y (List.mem_of_mem_take hy), hv.k, hv.w, hv.f⟩, h2.2.2⟩)
    show (List.take _ r1.1).length ≤ 7
    rw [List.length_take]
    have := hv.n
    have : r1.1.length ≤ 7 := this
    omega
  · have hk' : r1.2.1.length ≤ 60 := hk
    obtain ⟨n, hnn⟩ : ∃ n, r1.2.1.length + n = 60 := ⟨60 - r1.2.1.length, by omega⟩
    refine loop0 (σ := Int × Int × List (Int × List Int)) (spec_l12Any.S1 d) n (fun st _ => (b, st.1, st.2.1, ([] : List (List Int)), ([] : List (Int × (List Int))), (0 : Int), ([] : List (Int × Int × Int)), false, r1.1, st.2.2, r1.2.2.1, r1.2.2.2.1, r1.2.2.2.2.1))
      (fun st i => cur b st.1 ∧ st.2.2.length + n = 60 + i ∧ ∀ w ∈ st.2.2, w.2.length ≤ 300 ∧ ∀ z ∈ w.2, 0 ≤ z ∧ z ≤ 255) (fun _ _ r => dkV (curOf r) ∧ cur b r.2.2.2.2.2.1) (r2.2.1, r2.2.2, r1.2.1) (by omega) ⟨h2.2.2, by simp only; omega, hv.w⟩ ?_ ?_
    · rintro L st ⟨a1, a2, a3⟩
      dsimp only [spec_l12Any.S1, spec_l12Any.s1]
      refine tb (spec_l1Below.sp (by omega) a1) fun r9 h9 => ?_
      have b9 := h9.2.1 (by omega)
      rw [wrap_id (x := 59 + r9.1) (by omega) (by omega)]
      exact tn (by omega) (tl ⟨⟨hv.n, hv.s, by show st.2.2.length ≤ 61; omega, a3, hv.f⟩, h9.2.2⟩)
    · rintro L st i ⟨a1, a2, a3⟩ hi ih
      dsimp only [spec_l12Any.S1, spec_l12Any.s1]
      refine tb (spec_l1Below.sp (by omega) a1) fun r9 h9 => ?_
      have b9 := h9.2.1 (by omega)
      rw [wrap_id (x := 59 + r9.1) (by omega) (by omega)]
      refine tif (fun _ => tp (by simp; omega) ?_) fun _ => tl ⟨⟨hv.n, hv.s, by show st.2.2.length ≤ 61; omega, a3, hv.f⟩, h9.2.2⟩
      refine ih (r9.2.1, r9.2.2, st.2.2 ++ [(1, [1])]) ⟨h9.2.2, by simp only [List.length_append, List.length_cons, List.length_nil]; omega, fun w hw => ?_⟩
      rcases List.mem_append.1 hw with h | h
      · exact a3 w h
      · obtain rfl := List.mem_singleton.1 h
        exact ⟨by simp, fun z hz => by obtain rfl := List.mem_singleton.1 hz; omega⟩
theorem spec_DrawDiskOk.sp {d : Nat} (hd : 7 ≤ d) {b : List Int} (hl : b.length ≤ 1048576) : Tells (spec_DrawDiskOk.f d b) fun r => dkV r := by
  obtain ⟨d, rfl, _⟩ := dep hd
  rw [spec_DrawDiskOk.t_eq]
  dsimp only [spec_DrawDiskOk.m]
  refine tb (spec_l1New.sp (by omega) hl) fun r1 h1 => ?_
  rw [h1.1]
  exact tb (spec_l12Any.sp (by omega) h1.2) fun r2 h2 => tl h2.1
theorem spec_DrawTurnOn.sp {d : Nat} (hd : 7 ≤ d) {b : List Int} (hl : b.length ≤ 1048576) : Tells (spec_DrawTurnOn.f d b) fun r => dkV r := by
  obtain ⟨d, rfl, _⟩ := dep hd
  rw [spec_DrawTurnOn.t_eq]
  dsimp only [spec_DrawTurnOn.m]
  refine tb (spec_l1New.sp (by omega) hl) fun r1 h1 => ?_
  rw [h1.1]
  exact tb (spec_l12Any.sp (by omega) h1.2) fun r2 h2 => tl h2.1
theorem spec_l12N.sp {d : Nat} (hd : 4 ≤ d) {b : List Int} {p x : Int} (hc : cur b p) : Tells (spec_l12N.f d (b, p, x)) fun r => -1 ≤ r.1 ∧ r.1 ≤ 48 ∧ cur b r.2.1 := by
  obtain ⟨d, rfl, _⟩ := dep hd
  rw [spec_l12N.t_eq]
  dsimp only [spec_l12N.m]
  refine tb (spec_l1Int.sp (by omega) hc (by simp)) fun r1 h1 => tl ?_
  have m := h1.1
  simp only [List.mem_cons, List.not_mem_nil, or_false] at m
  exact ⟨by simp only; omega, by simp only; omega, h1.2⟩
theorem spec_DrawReadSec.sp {d : Nat} (hd : 7 ≤ d) {b : List Int} (hl : b.length ≤ 1048576) : Tells (spec_DrawReadSec.f d b) fun r => dkV (r.1, r.2.1, r.2.2.1, r.2.2.2.1, r.2.2.2.2.1) := by
  obtain ⟨d, rfl, _⟩ := dep hd
  rw [spec_DrawReadSec.t_eq]
  dsimp only [spec_DrawReadSec.m]
  refine tb (spec_l1New.sp (by omega) hl) fun r1 h1 => ?_
  rw [h1.1]
  exact tb (spec_l12Any.sp (by omega) h1.2) fun r2 h2 => tb (spec_l12N.sp (by omega) h2.2) fun r3 h3 => tl h2.1
theorem spec_DrawDiskNew.sp {d : Nat} (hd : 5 ≤ d) {b : List Int} (hl : b.length ≤ 1048576) : Tells (spec_DrawDiskNew.f d b) fun r => r.2.length ≤ 5 := by
  obtain ⟨d, rfl, _⟩ := dep hd
  rw [spec_DrawDiskNew.t_eq]
  dsimp only [spec_DrawDiskNew.m]
  refine tb (spec_l1New.sp (by omega) hl) fun r1 h1 => ?_
  rw [h1.1]
  refine tb (spec_l12FaultList.sp (by omega) h1.2) fun r2 h2 => tb (spec_l1Once.sp (by omega) h2.2) fun r3 h3 => tbif (fun _ => ?_) fun _ => ?_
  · refine tb (spec_l1Int.sp (by omega) h3 (by simp)) fun r4 h4 => tb (spec_l1Int.sp (by omega) h4.2 (by simp)) fun r5 h5 => tp ?_ (tb (spec_l1Int.sp (by omega) h5.2 (by simp)) fun r6 h6 => tl ?_)
    · have := h2.1.1
      simp only [List.length_cons, List.length_nil]; omega
    · have := h2.1.1
      simp only [List.length_append, List.length_cons, List.length_nil]; omega
  · exact tb (spec_l1Int.sp (by omega) h3 (by simp)) fun r7 h7 => tl (by have := h2.1.1; simp only; omega)
theorem newDk_ok (n : Int) (fs : List (Int × Int × Int)) : diskOkM (newDk n fs).1 (newDk n fs).2.1 (newDk n fs).2.2.1 (newDk n fs).2.2.2.1 (newDk n fs).2.2.2.2 = decide (((newDk n fs).1.length : Int) > 0) := by
  unfold newDk
  split
  · rename_i h
    have hn := inB_iff.1 h.1
    have h1 : (List.replicate n.toNat ([] : List Int)).all secOk = true := List.all_eq_true.2 fun x hx => by rw [(List.mem_replicate.1 hx).2]; rfl
    have h2 : ((List.replicate n.toNat ([] : List Int)).length : Int) = n := by simp; omega
    unfold diskOkM
    simp only
    rw [h1, h2, h.1, h.2]
    simp [inB]
    omega
  · rfl
theorem newDk_read {n : Int} {fs : List (Int × Int × Int)} {i : Nat} (h : i < (newDk n fs).1.length) : readM (newDk n fs) (i : Int) = ([], true) := by
  unfold readM
  rw [if_pos (inB_iff.2 ⟨by omega, by omega⟩)]
  have e : (newDk n fs).2.1 = [] := by unfold newDk; split <;> rfl
  have g : (newDk n fs).1[i] = [] := by
    have hm := List.getElem_mem h
    unfold newDk at hm ⊢
    split at hm
    · rename_i hh
      simp only [hh, and_self, if_true]
      simp
    · cases hm
  rw [e, Int.toNat_natCast, List.getD_eq_getElem?_getD, List.getElem?_eq_getElem h, g]
  rfl
theorem laws_FnNewDisks.pure {d : Nat} (hd : 8 ≤ d) {b : List Int} (h0 : okV (.row (.one (.int .u8))) b) : laws_FnNewDisks.f d b = some true := by
  obtain ⟨d, rfl, _⟩ := dep hd
  rw [laws_FnNewDisks.t_eq]
  dsimp only [laws_FnNewDisks.m]
  refine Tells.eq (tc (laws_big.sp (by omega) b) (tif (fun _ => tl rfl) fun h => ?_))
  have hl : b.length ≤ 1048576 := by omega
  refine tb (spec_DrawDiskNew.sp (by omega) hl) fun r2 h2 => ?_
  refine tc (impl_DiskNew.sp (by omega) (by omega)) (tb (spec_DrawDiskOk.sp (by omega) hl) fun r4 h4 => tb (spec_DrawTurnOn.sp (by omega) hl) fun r5 h5 => tc (impl_TurnOn.sp (by omega) h5.sm) (tb (spec_DrawReadSec.sp (by omega) hl) fun r7 h7 => ?_))
  have f7 := h7.sm
  refine tc (impl_ReadSec.sp (x := (r7.1, r7.2.1, r7.2.2.1, r7.2.2.2.1, r7.2.2.2.2.1)) (by omega) f7.fit _) (tc (spec_ReadSec.sp (x := (r7.1, r7.2.1, r7.2.2.1, r7.2.2.2.1, r7.2.2.2.2.1)) (by omega) f7.fit _) ?_)
  have l7 := readM_fit (x := (r7.1, r7.2.1, r7.2.2.1, r7.2.2.2.1, r7.2.2.2.2.1)) (n := r7.2.2.2.2.2) ⟨f7.1.2, f7.2.1.2⟩
  revert l7
  generalize readM (r7.1, r7.2.1, r7.2.2.1, r7.2.2.2.1, r7.2.2.2.2.1) r7.2.2.2.2.2 = R
  intro l7
  have nf := newDk_fit (n := r2.1) (fs := r2.2)
  have nr := fun i => newDk_read (n := r2.1) (fs := r2.2) (i := i)
  have no := newDk_ok r2.1 r2.2
  have ns := spec_DiskNew.sp (d := d) (n := r2.1) (by omega) (show r2.2.length ≤ 1048576 by omega)
  have nb : dkSm (newDk r2.1 r2.2) := by
    have h1 : (newDk r2.1 r2.2).1.length ≤ 48 := by
      unfold newDk; split
      · rename_i hh; have := inB_iff.1 hh.1; simp; omega
      · simp [noDk]
    have h2' : ∀ y ∈ (newDk r2.1 r2.2).1, y.length ≤ 1 := by
      unfold newDk; split
      · intro y hy; rw [(List.mem_replicate.1 hy).2]; simp
      · intro y hy; cases hy
    have h3 : (newDk r2.1 r2.2).2.1 = [] := by unfold newDk; split <;> rfl
    have h5' : (newDk r2.1 r2.2).2.2.2.1.length ≤ 5 := by
      unfold newDk; split
      · exact h2
      · simp [noDk]
    exact small_of (a := 48) (b := 0) (c := 5) (k := 1) h1 h2' (by rw [h3]; simp) (by rw [h3]; intro w hw; cases hw) h5' (by omega) (by omega) (by omega) (by omega)
  revert nf nr no ns nb
  generalize newDk r2.1 r2.2 = D
  intro nf nr no ns nb
  refine loopE (laws_FnNewDisks.S0 d) D.1.length (fun i => (r2.1, R.2, R.2, i, D.1, D.2.1, D.2.2.1, D.2.2.2.1, D.2.2.2.2, r4.1, r4.2.1, r4.2.2.1, r4.2.2.2.1, r4.2.2.2.2, (onM r5).1, (onM r5).2.1, (onM r5).2.2.1, (onM r5).2.2.2.1, (onM r5).2.2.2.2, r2.2, R.1, R.1)) (fun _ r => r = true) (by have := nb.1.1; omega) (fun L => ?_) fun L i hi ih => ?_
  · dsimp only [laws_FnNewDisks.S0, laws_FnNewDisks.s0]
    refine tn (by omega) (tc (impl_DiskOk.sp (by omega) nb.1.1 nb.2.1.1 nb.2.2.1) ?_)
    rw [no]
    refine tt (by simp) (tc ns (tt (by simp) ?_))
    have g := h4.sm
    refine tc (impl_DiskOk.sp (by omega) g.1.1 g.2.1.1 g.2.2.1) (tc (spec_DiskOk.sp (by omega) g.1.1 g.2.1.1 g.2.2.1) (tt (by simp) (tt rfl (tt (by simp) ?_))))
    exact tc (laws_sameBytes.self (by omega) (by omega)) (tl rfl)
  · dsimp only [laws_FnNewDisks.S0, laws_FnNewDisks.s0]
    refine tp (by omega) (tc (impl_ReadSec.sp (by omega) nf.1 _) ?_)
    rw [nr i hi, wrap_succ (by have := nb.1.1; omega)]
    exact tf rfl (tf rfl ih)
theorem pageM_bytes (n : Int) {l : List Int} (hb : ∀ b ∈ l, 0 ≤ b ∧ b ≤ 255) : ∀ x ∈ pageM n l, 0 ≤ x ∧ x ≤ 255 := by
  unfold pageM
  split
  · exact app_bytes (pageBody_bytes _ _ hb) (sum4_bytes _)
  · intro x hx; cases hx
theorem pageOf_cases (body : List Int) (ok : Bool) : pageOf body ok = (0, [], false) ∨ ∃ n c s c2, getUM body = some (n, c) ∧ getTextM (body.drop c) = some (s, c2) ∧ ok = true ∧ (c + c2 = body.length ∧ inB n 1 2 = true ∧ s.size ≤ 240) ∧ pageOf body ok = (n, strNums s, true) := by
  cases hu : getUM body with
  | none => exact .inl (pageOf_none hu)
  | some p =>
    obtain ⟨n, c⟩ := p
    cases ht : getTextM (body.drop c) with
    | none => exact .inl (pageOf_no hu ht)
    | some q =>
      obtain ⟨s, c2⟩ := q
      rw [pageOf_some hu ht]
      by_cases hc : ok = true ∧ c + c2 = body.length ∧ inB n 1 2 = true ∧ s.size ≤ 240
      · rw [if_pos hc]
        exact .inr ⟨n, c, s, c2, rfl, ht, hc.1, hc.2, rfl⟩
      · rw [if_neg hc]
        exact .inl rfl
theorem getPage_false {b : List Int} (h : (getPageM b).2.2 = false) : getPageM b = (0, [], false) := by
  unfold getPageM at h ⊢
  rcases pageOf_cases (getSumM b).1 (getSumM b).2 with e | ⟨n, c, s, c2, _, _, _, _, e⟩
  · exact e
  · rw [e] at h; cases h
theorem getPage_true {b : List Int} (hb : ∀ x ∈ b, 0 ≤ x ∧ x ≤ 255) (h : (getPageM b).2.2 = true) : pageM (getPageM b).1 (getPageM b).2.1 = b := by
  unfold getPageM at h ⊢
  rcases pageOf_cases (getSumM b).1 (getSumM b).2 with e | ⟨n, c, s, c2, hu, ht, hok, hc, e⟩
  · rw [e] at h; cases h
  · rw [e]
    have hS : getSumM b = ((getSumM b).1, true) := by rw [← hok]
    exact (page_back hb hS hu ht).2 hc
theorem laws_sameBytes.sp {d : Nat} (hd : 1 ≤ d) {a b : List Int} (ha : a.length ≤ 140737488351232) : laws_sameBytes.f d (a, b) = some (decide (a = b)) := by
  obtain ⟨d, rfl, _⟩ := dep hd
  rw [laws_sameBytes.t_eq]
  refine Tells.eq ?_
  dsimp only [laws_sameBytes.m]
  refine tbif (fun h => tl ?_) fun h => ?_
  · rw [decide_eq_false]; rintro rfl; simp at h
  have hl : a.length = b.length := by have : (a.length : Int) = (b.length : Int) := by simpa using h
                                      omega
  have := loopE (laws_sameBytes.S0 d) a.length (fun i => (a, b, i)) (fun i r => r = decide (a.drop i = b.drop i)) (by omega) (fun L => ?_) fun L i hi ih => ?_
  · simpa using this
  · dsimp only [laws_sameBytes.S0, laws_sameBytes.s0]
    refine tn (by omega) (tl ?_)
    rw [List.drop_length, hl, List.drop_length]; rfl
  · dsimp only [laws_sameBytes.S0, laws_sameBytes.s0]
    have hib : i < b.length := by omega
    rw [drop_at hi, drop_at hib, getD_in hi, getD_in hib, wrap_succ (by omega)]
    refine tp (by omega) (ti hi (ti hib (tbif (fun c => tl ?_) fun c => ih.mono fun r hr => ?_)))
    · rw [decide_eq_false]
      intro e
      rw [List.cons.injEq] at e
      rw [e.1] at c; simp at c
    · have c' : a[i] = b[i] := by simpa using c
      rw [hr, c', Bool.eq_iff_iff, decide_eq_true_iff, decide_eq_true_iff, List.cons.injEq]
      exact ⟨fun h => ⟨rfl, h⟩, fun h => h.2⟩
theorem snocInd {α : Type} {P : List α → Prop} (h0 : P []) (h1 : ∀ l b, P l → P (l ++ [b])) (l : List α) : P l := by
  have h : ∀ l : List α, P l.reverse := by
    intro l
    induction l with
    | nil => exact h0
    | cons a r ih => rw [List.reverse_cons]; exact h1 _ _ ih
  have := h l.reverse
  rwa [List.reverse_reverse] at this
theorem applyW_last : ∀ {ws : List (Int × List Int)} {ss : List (List Int)} {i : Nat} (h : i < ss.length), (∀ w ∈ ws, 0 ≤ w.1) → (applyW ss ws)[i]'(by rw [applyW_len]; exact h) = lastW ws (i : Int) ss[i] := by
  intro ws
  refine snocInd (P := fun ws : List (Int × List Int) => ∀ {ss : List (List Int)} {i : Nat} (h : i < ss.length), (∀ w ∈ ws, 0 ≤ w.1) → (applyW ss ws)[i]'(by rw [applyW_len]; exact h) = lastW ws (i : Int) ss[i]) ?_ ?_ ws
  · intro ss i h _; rfl
  · intro ws w ih ss i h hw
    have hi : i < (applyW ss ws).length := by rw [applyW_len]; exact h
    have e : lastW (ws ++ [w]) (i : Int) ss[i] = if w.1 = (i : Int) then w.2 else lastW ws (i : Int) ss[i] := by
      have := lastW_snoc (ws := ws ++ [w]) (i := ws.length) (by simp) (n := (i : Int)) (z := ss[i])
      have e1 : (ws ++ [w]).take (ws.length + 1) = ws ++ [w] := List.take_of_length_le (by simp)
      have e2 : (ws ++ [w]).take ws.length = ws := by simp
      rw [e1, e2] at this
      simpa using this
    rw [e]
    have h0 := hw w (by simp)
    simp only [applyW_snoc, List.getElem_set]
    by_cases hc : w.1 = (i : Int)
    · rw [if_pos hc, if_pos (by omega)]
    · rw [if_neg hc, if_neg (by omega)]
      exact ih h fun v hv => hw v (by simp [hv])
theorem applyW_from : ∀ {ws : List (Int × List Int)} {ss : List (List Int)} {i : Nat} (h : i < ss.length), (∀ w ∈ ws, 0 ≤ w.1) → (applyW ss ws)[i]'(by rw [applyW_len]; exact h) = ss[i] ∨ ∃ w ∈ ws, w.1 = (i : Int) ∧ (applyW ss ws)[i]'(by rw [applyW_len]; exact h) = w.2 := by
  intro ws ss i h hw
  rw [applyW_last h hw]
  unfold lastW
  split
  · rename_i w hf
    exact .inr ⟨w, List.mem_reverse.1 (List.mem_of_find?_eq_some hf), by simpa using List.find?_some hf, rfl⟩
  · exact .inl rfl
theorem cutLast_mem {c : Int} {m : Int} {ws : List (Int × List Int)} {n : Nat} {w : Int × List Int} (h : w ∈ cutLast c (keptW m ws n)) : ∃ v ∈ ws, v.1 = w.1 ∧ w.2.length ≤ v.2.length ∧ v.2.take w.2.length = w.2 := by
  unfold cutLast at h
  split at h
  · cases h
  · rename_i v hv
    rcases List.mem_append.1 h with h1 | h1
    · exact ⟨w, keptW_mem (List.dropLast_subset _ h1), rfl, Nat.le_refl _, List.take_length⟩
    · obtain rfl := List.mem_singleton.1 h1
      refine ⟨v, keptW_mem (List.mem_of_getLast? hv), rfl, ?_, ?_⟩
      · simp only [cutW, List.length_take]; omega
      · simp only [cutW, List.length_take]
        by_cases hc : c.toNat ≤ v.2.length
        · rw [Nat.min_eq_left hc]
        · rw [Nat.min_eq_right (by omega), List.take_length, List.take_of_length_le (by omega)]
structure flushed (x : Dk) (code : Int) (F : Dk) : Prop where
  len : F.1.length = x.1.length
  cd : code = 0 ∨ code = 9
  sec : ∀ (i : Nat) (h : i < x.1.length), (F.1[i]'(by rw [len]; exact h) = x.1[i] ∧ code ≠ 0) ∨ (F.1[i]'(by rw [len]; exact h) = (readM x (i : Int)).1 ∧ code = 0) ∨
    (code = 9 ∧ ∃ (j : Nat) (hj : j < x.2.1.length), x.2.1[j].1 = (i : Int) ∧ (F.1[i]'(by rw [len]; exact h)).length ≤ x.2.1[j].2.length ∧ x.2.1[j].2.take (F.1[i]'(by rw [len]; exact h)).length = F.1[i]'(by rw [len]; exact h))
  ok : diskOkM F.1 F.2.1 F.2.2.1 F.2.2.2.1 F.2.2.2.2 = true
  why : code = 0 ∨ F.2.2.2.2 = true ∨ x.2.2.1 ≥ 100000
theorem disk_parts {x : Dk} (h : diskOkM x.1 x.2.1 x.2.2.1 x.2.2.2.1 x.2.2.2.2 = true) : (∀ y ∈ x.1, secOk y = true) ∧ (∀ w ∈ x.2.1, wrOk x.1.length w = true) ∧ inB x.1.length 4 48 = true ∧ (x.2.1.length : Int) ≤ 60 ∧ inB x.2.2.1 0 100000 = true ∧ faultsOkM x.2.2.2.1 = true := by
  unfold diskOkM at h
  simp only [Bool.and_eq_true, decide_eq_true_eq] at h
  obtain ⟨⟨⟨⟨⟨⟨h1, h2⟩, h3⟩, h4⟩, h5⟩, h6⟩, _⟩ := h
  exact ⟨List.all_eq_true.1 h1, List.all_eq_true.1 h2, h3, h4, h5, h6⟩
theorem disk_done {ss : List (List Int)} {p : Int} {fs : List (Int × Int × Int)} {on : Bool} (h1 : ∀ y ∈ ss, secOk y = true) (h3 : inB ss.length 4 48 = true) (h5 : inB p 0 100000 = true) (h6 : faultsOkM fs = true) : diskOkM ss [] p fs on = true := by
  unfold diskOkM
  rw [List.all_eq_true.2 h1, h3, h5, h6]
  cases on <;> rfl
theorem applied_ok {x : Dk} {l : List (Int × List Int)} (h : diskOkM x.1 x.2.1 x.2.2.1 x.2.2.2.1 x.2.2.2.2 = true) (hp : ¬ x.2.2.1 ≥ 100000) (hl : ∀ w ∈ l, ∃ v ∈ x.2.1, w.2.length ≤ v.2.length) (on : Bool) : diskOkM (applyW x.1 l) [] (x.2.2.1 + 1) x.2.2.2.1 on = true := by
  obtain ⟨h1, h2, h3, h4, h5, h6⟩ := disk_parts h
  have hq := inB_iff.1 h5
  refine disk_done (applyW_all (P := fun y => secOk y = true) h1 fun w hw => ?_) (by rw [applyW_len]; exact h3) (inB_iff.2 ⟨by omega, by omega⟩) h6
  obtain ⟨v, hv, hle⟩ := hl w hw
  have := h2 v hv
  unfold wrOk at this
  simp only [Bool.and_eq_true, decide_eq_true_eq] at this
  unfold secOk
  rw [decide_eq_true_eq]
  omega
theorem flush_facts {x : Dk} (sm : dkSm x) (hok : diskOkM x.1 x.2.1 x.2.2.1 x.2.2.2.1 x.2.2.2.2 = true) : flushed x (flushAll x).2.2.2.2.2 (dkOf (flushAll x)) := by
  have hg := diskOk_good sm hok
  have hw0 : ∀ w ∈ x.2.1, 0 ≤ w.1 := fun w hw => (hg.2.1 w hw).1
  have e : flushAll x = packC (flushM x) := by unfold flushAll; rw [if_pos hok]; rfl
  rw [e]
  have same : flushed x 9 x → flushed x 9 x := id
  by_cases h1 : x.2.2.2.2 = true
  · have e2 : flushM x = (9, x) := by unfold flushM; rw [if_pos h1]
    rw [e2]
    exact ⟨rfl, .inr rfl, fun i h => .inl ⟨rfl, show (9 : Int) ≠ 0 by decide⟩, hok, .inr (.inl h1)⟩
  · by_cases h2 : x.2.2.1 ≥ 100000
    · have e2 : flushM x = (9, x) := by unfold flushM; rw [if_neg h1, if_pos h2]
      rw [e2]
      exact ⟨rfl, .inr rfl, fun i h => .inl ⟨rfl, show (9 : Int) ≠ 0 by decide⟩, hok, .inr (.inr h2)⟩
    · by_cases h3 : (faultM x.2.2.2.1 x.2.2.1).2.2.2 = true
      · have e2 : flushM x = (9, loseM (pulsed x) (faultM x.2.2.2.1 x.2.2.1).2.1 (faultM x.2.2.2.1 x.2.2.1).2.2.1) := by unfold flushM; rw [if_neg h1, if_neg h2, if_pos h3]
        rw [e2]
        generalize (faultM x.2.2.2.1 x.2.2.1).2.1 = m
        generalize (faultM x.2.2.2.1 x.2.2.1).2.2.1 = c
        have hc0 : ∀ w ∈ cutLast c (keptW m x.2.1 x.2.1.length), 0 ≤ w.1 := fun w hw => by
          obtain ⟨v, hv, e, _⟩ := cutLast_mem hw
          rw [← e]; exact hw0 v hv
        refine ⟨applyW_len, .inr rfl, fun i h => ?_, applied_ok hok h2 (fun w hw => ?_) true, .inr (.inl rfl)⟩
        · have hlen : i < (applyW x.1 (cutLast c (keptW m x.2.1 x.2.1.length))).length := by rw [applyW_len]; exact h
          rcases applyW_from h hc0 with h4 | ⟨w, hw, h5, h6⟩
          · exact .inl ⟨h4, show (9 : Int) ≠ 0 by decide⟩
          · obtain ⟨v, hv, e1, e2, e3⟩ := cutLast_mem hw
            obtain ⟨j, hj, rfl⟩ := List.mem_iff_getElem.1 hv
            refine .inr (.inr ⟨rfl, j, hj, by rw [e1]; exact h5, ?_, ?_⟩)
            · show (applyW x.1 (cutLast c (keptW m x.2.1 x.2.1.length)))[i].length ≤ _
              rw [h6]; exact e2
            · show x.2.1[j].2.take (applyW x.1 (cutLast c (keptW m x.2.1 x.2.1.length)))[i].length = (applyW x.1 (cutLast c (keptW m x.2.1 x.2.1.length)))[i]
              rw [h6]; exact e3
        · obtain ⟨v, hv, _, h4, _⟩ := cutLast_mem hw
          exact ⟨v, hv, h4⟩
      · have e2 : flushM x = (0, applyW x.1 x.2.1, [], x.2.2.1 + 1, x.2.2.2.1, x.2.2.2.2) := by unfold flushM; rw [if_neg h1, if_neg h2, if_neg h3]
        rw [e2]
        refine ⟨applyW_len, .inl rfl, fun i h => .inr (.inl ⟨?_, rfl⟩), applied_ok hok h2 (fun w hw => ⟨w, hw, Nat.le_refl _⟩) _, .inl rfl⟩
        have hlen : i < (applyW x.1 x.2.1).length := by rw [applyW_len]; exact h
        show (applyW x.1 x.2.1)[i] = _
        rw [applyW_last h hw0]
        unfold readM
        rw [if_pos (inB_iff.2 ⟨by omega, by omega⟩), Int.toNat_natCast, List.getD_eq_getElem?_getD, List.getElem?_eq_getElem h]
        rfl
theorem lastW_app {ws : List (Int × List Int)} {n k : Int} {b z : List Int} : lastW (ws ++ [(n, b)]) k z = if n = k then b else lastW ws k z := by
  have := lastW_snoc (ws := ws ++ [(n, b)]) (i := ws.length) (by simp) (n := k) (z := z)
  have e1 : (ws ++ [(n, b)]).take (ws.length + 1) = ws ++ [(n, b)] := List.take_of_length_le (by simp)
  have e2 : (ws ++ [(n, b)]).take ws.length = ws := by simp
  rw [e1, e2] at this
  simpa using this
theorem readM_at {x : Dk} {i : Nat} (h : i < x.1.length) : readM x (i : Int) = (lastW x.2.1 (i : Int) x.1[i], true) := by
  unfold readM
  rw [if_pos (inB_iff.2 ⟨by omega, by omega⟩), Int.toNat_natCast, List.getD_eq_getElem?_getD, List.getElem?_eq_getElem h]
  rfl
/-- what a write left -/
structure wroteF (x : Dk) (n : Int) (b : List Int) (r : Dc) : Prop where
  same : r.2.2.1 = x.2.2.1 → dkOf r = x ∧ r.2.2.2.2.2 ≠ 0
  lost : r.2.2.1 ≠ x.2.2.1 → r.2.2.2.2.2 ≠ 0 → r.2.2.2.2.2 = 9 ∧ r.2.2.2.2.1 = true ∧ r.2.1 = [] ∧ diskOkM r.1 r.2.1 r.2.2.1 r.2.2.2.1 r.2.2.2.2.1 = true
  put : r.2.2.1 ≠ x.2.2.1 → r.2.2.2.2.2 = 0 → dkOf r = wrote x n b ∧ inB n 0 ((x.1.length : Int) - 1) = true ∧ x.2.2.2.2 = false ∧ diskOkM x.1 (x.2.1 ++ [(n, b)]) (x.2.2.1 + 1) [] false = true
theorem write_facts {x : Dk} (sm : dkSm x) {n : Int} {b : List Int} (hb : b.length ≤ 1048576) : wroteF x n b (writeAll x n b) := by
  have none' : wroteF x n b (packC (1, x)) := ⟨fun _ => ⟨rfl, show (1 : Int) ≠ 0 by decide⟩, fun h => absurd rfl h, fun h => absurd rfl h⟩
  have nine : wroteF x n b (packC (9, x)) := ⟨fun _ => ⟨rfl, show (9 : Int) ≠ 0 by decide⟩, fun h => absurd rfl h, fun h => absurd rfl h⟩
  unfold writeAll
  by_cases hc : diskOkM x.1 x.2.1 x.2.2.1 x.2.2.2.1 x.2.2.2.2 = true ∧ inB n 0 ((x.1.length : Int) - 1) = true ∧ ¬ (b.length : Int) > 256 ∧ ¬ (x.2.1.length : Int) ≥ 60
  · rw [if_pos hc]
    obtain ⟨c1, c2, c3, c4⟩ := hc
    obtain ⟨h1, h2, h3, h4, h5, h6⟩ := disk_parts c1
    have hq := inB_iff.1 h5
    have hn := inB_iff.1 c2
    unfold writeM
    by_cases g1 : x.2.2.2.2 = true
    · rw [if_pos g1]; exact nine
    · rw [if_neg g1]
      by_cases g2 : x.2.2.1 ≥ 100000
      · rw [if_pos g2]; exact nine
      · rw [if_neg g2, if_neg c4]
        have wok : ∀ w ∈ x.2.1 ++ [(n, b)], wrOk x.1.length w = true := fun w hw => by
          rcases List.mem_append.1 hw with h | h
          · exact h2 w h
          · obtain rfl := List.mem_singleton.1 h
            have hb3 : (b.length : Int) ≤ 256 := by omega
            show (inB n 0 ((x.1.length : Int) - 1) && decide ((b.length : Int) ≤ 256)) = true
            rw [c2, decide_eq_true hb3]; rfl
        by_cases g3 : (faultM x.2.2.2.1 x.2.2.1).2.2.2 = true
        · rw [if_pos g3]
          generalize (faultM x.2.2.2.1 x.2.2.1).2.1 = m
          generalize (faultM x.2.2.2.1 x.2.2.1).2.2.1 = c
          have hne : (packC (9, loseM (wrote x n b) m c)).2.2.1 ≠ x.2.2.1 := by
            show x.2.2.1 + 1 ≠ x.2.2.1
            omega
          refine ⟨fun h => absurd h hne, fun _ _ => ⟨rfl, rfl, rfl, ?_⟩, fun _ h => by cases h⟩
          refine disk_done (applyW_all (P := fun y => secOk y = true) h1 fun w hw => ?_) (by show inB (((applyW x.1 (cutLast c (keptW m (wrote x n b).2.1 (wrote x n b).2.1.length))).length : Nat) : Int) 4 48 = true; rw [applyW_len]; exact h3) (inB_iff.2 ⟨by show 0 ≤ x.2.2.1 + 1; omega, by show x.2.2.1 + 1 ≤ 100000; omega⟩) h6
          obtain ⟨v, hv, _, hle, _⟩ := cutLast_mem hw
          have := wok v hv
          unfold wrOk at this
          simp only [Bool.and_eq_true, decide_eq_true_eq] at this
          unfold secOk
          rw [decide_eq_true_eq]
          omega
        · rw [if_neg g3]
          have hne : (packC (0, wrote x n b)).2.2.1 ≠ x.2.2.1 := by
            show x.2.2.1 + 1 ≠ x.2.2.1
            omega
          refine ⟨fun h => absurd h hne, fun _ h => absurd rfl h, fun _ _ => ⟨rfl, c2, by simpa using g1, ?_⟩⟩
          unfold diskOkM
          rw [List.all_eq_true.2 h1, List.all_eq_true.2 wok, h3, decide_eq_true (by simp only [List.length_append, List.length_singleton]; omega), inB_iff.2 ⟨by omega, by omega⟩]
          rfl
  · rw [if_neg hc]
    exact none'
end Go.PV.T
