/- Functions of the program by their own lists and numbers. No condition beyond those in each statement. -/
import Derived.Test.YticedidmodmdnaaPvDIx2
set_option linter.unusedVariables false
set_option linter.unusedSimpArgs false
set_option linter.unusedVariables false
namespace Go.PV.T
open Go Go.Proofs
theorem in_def (a lo hi : Int) : (bif decide (a ≥ lo) then some (decide (a ≤ hi)) else some false) = some (inB a lo hi) := by
  by_cases h : lo ≤ a <;> simp [inB, h]
theorem impl_in.sp {d : Nat} (hd : 1 ≤ d) (a lo hi : Int) : impl_in.f d (a, lo, hi) = some (inB a lo hi) := by
  obtain ⟨d, rfl, hd⟩ := dep hd
  rw [impl_in.t_eq]
  exact in_def a lo hi
theorem spec_l1In.sp {d : Nat} (hd : 1 ≤ d) (a lo hi : Int) : spec_l1In.f d (a, lo, hi) = some (inB a lo hi) := by
  obtain ⟨d, rfl, hd⟩ := dep hd
  rw [spec_l1In.t_eq]
  exact in_def a lo hi
def fOk (x : Int × Int × Int) : Bool := inB x.1 0 100000 && (inB x.2.1 0 1048575 && inB x.2.2 0 256)
def faultsM : Option (Int × Int × Int) → List (Int × Int × Int) → Bool
  | _, [] => true
  | p, x :: r => fOk x && (match p with
    | none => faultsM (some x) r
    | some y => !decide (y.1 ≥ x.1) && faultsM (some x) r)
def before (fs : List (Int × Int × Int)) (i : Nat) : Option (Int × Int × Int) := if i = 0 then none else fs[i - 1]?
theorem before_succ {fs : List (Int × Int × Int)} {i : Nat} (h : i < fs.length) : before fs (i + 1) = some fs[i] := by
  unfold before
  rw [if_neg (by omega), show i + 1 - 1 = i by omega]
  simp [h]
/-- what both rounds over the faults tell -/
theorem faults_round {fs : List (Int × Int × Int)} {i : Nat} {k : Bool} {x : Option Bool} (hi : i < fs.length) (hl : fs.length ≤ 1048576) {c : Int × Int × Int → Option Bool} (hc : ∀ a lo hi, c (a, lo, hi) = some (inB a lo hi))
    (ih : Tells x (· = (faultsM (before fs (i + 1)) (fs.drop (i + 1)) && k))) (b1 b2 b3 : Bool) (h1 : b1 = true) (h2 : b2 = true) (h3 : b3 = true) :
    Tells (Option.bind (c (fs[i].1, 0, 100000)) fun r1 => bif !r1 then some false else bif b1 then
      Option.bind (c (fs[i].2.1, 0, 1048575)) fun r2 => bif !r2 then some false else bif b2 then
        Option.bind (c (fs[i].2.2, 0, 256)) fun r3 => bif !r3 then some false else
          bif decide ((i : Int) > 0) then
            bif decide (0 ≤ IntKind.wrap IntKind.i64 ((i : Int) - 1)) && decide (IntKind.wrap IntKind.i64 ((i : Int) - 1) < (fs.length : Int)) then
              bif b3 then
                bif decide ((List.getD fs (Int.toNat (IntKind.wrap IntKind.i64 ((i : Int) - 1))) ((0 : Int), (0 : Int), (0 : Int))).1 ≥ fs[i].1) then some false else x
              else none
            else none
          else x
        else none
      else none) (· = (faultsM (before fs i) (fs.drop i) && k)) := by
  subst h1 h2 h3
  rw [drop_at hi, before_succ hi] at *
  simp only [faultsM, fOk]
  refine tc (hc _ _ _) (tbif (fun h => tl (by simp at h; simp [h])) fun h => ?_)
  refine tc (hc _ _ _) (tbif (fun h' => tl (by simp at h'; simp [h'])) fun h' => ?_)
  refine tc (hc _ _ _) (tbif (fun h'' => tl (by simp at h''; simp [h''])) fun h'' => ?_)
  simp only [Bool.not_eq_false'] at h h' h''
  rw [h, h', h'']
  by_cases h0 : i = 0
  · subst h0
    refine tn (by omega) ?_
    simpa [before] using ih
  · have hb : before fs i = some fs[i - 1] := by unfold before; rw [if_neg h0]; simp
    have e : IntKind.wrap IntKind.i64 ((i : Int) - 1) = ((i - 1 : Nat) : Int) := by rw [wrap_id (by omega) (by omega)]; omega
    rw [hb, e]
    refine tp (by omega) (ti (by omega) (tt rfl ?_))
    rw [getD_in (by omega)]
    refine tif (fun c => tl ?_) fun c => ?_
    · simp only [decide_eq_true c]; simp
    · simp only [decide_eq_false c]; simpa using ih
def faultsOkM (fs : List (Int × Int × Int)) : Bool := faultsM none fs && decide ((fs.length : Int) ≤ 20)
theorem spec_l12Faults.sp {d : Nat} (hd : 2 ≤ d) {fs : List (Int × Int × Int)} (hl : fs.length ≤ 1048576) : spec_l12Faults.f d fs = some (faultsOkM fs) := by
  obtain ⟨d, rfl, _⟩ := dep hd
  rw [spec_l12Faults.t_eq]
  refine Tells.eq ?_
  refine loopE (spec_l12Faults.S0 d) fs.length (fun i => (fs, i)) (fun i r => r = (faultsM (before fs i) (fs.drop i) && decide ((fs.length : Int) ≤ 20))) (by omega) (fun L => ?_) fun L i hi ih => ?_
  · dsimp only [spec_l12Faults.S0, spec_l12Faults.s0]
    exact tn (by omega) (tl (by simp [faultsM]))
  · dsimp only [spec_l12Faults.S0, spec_l12Faults.s0]
    refine tp (by omega) (ti hi ?_)
    rw [getD_in hi, wrap_succ (by omega)]
    exact faults_round hi hl (spec_l1In.sp (by omega)) ih _ _ _ (inr hi) (inr hi) (inr hi)
def secOk (x : List Int) : Bool := decide ((x.length : Int) ≤ 256)
def wrOk (n : Int) (w : Int × List Int) : Bool := inB w.1 0 (n - 1) && decide ((w.2.length : Int) ≤ 256)
abbrev Dk := (List (List Int)) × (List (Int × (List Int))) × Int × (List (Int × Int × Int)) × Bool
def diskOkM (ss : List (List Int)) (ws : List (Int × List Int)) (p : Int) (fs : List (Int × Int × Int)) (on : Bool) : Bool :=
  ss.all secOk && ws.all (wrOk ss.length) && inB ss.length 4 48 && decide ((ws.length : Int) ≤ 60) && inB p 0 100000 && faultsOkM fs && (!on || decide (ws.length = 0))
/-- a test of each element -/
theorem loopAll {A β : Type} (s : (A → Option Bool) → A → Option Bool) (l : List β) (mk : Int → A) (p : β → Bool) (e : Bool) (hn : l.length ≤ 4611686018427387904)
    (base : ∀ L, Tells (s L (mk (l.length : Int))) (· = e))
    (step : ∀ L i (hi : i < l.length), (∀ e', Tells (L (mk ((i + 1 : Nat) : Int))) (· = e') → Tells (s L (mk (i : Int))) (· = (p l[i] && e')))) :
    Tells (iter s rnds (mk (0 : Int))) (· = (l.all p && e)) := by
  have := loopE s l.length mk (fun i r => r = ((l.drop i).all p && e)) hn (fun L => (base L).mono fun r h => by simp [h]) fun L i hi ih => by
    rw [drop_at hi, List.all_cons, Bool.and_assoc]
    exact step L i hi _ ih
  simpa using this
theorem impl_DiskOk.sp {d : Nat} (hd : 2 ≤ d) {ss : List (List Int)} {ws : List (Int × List Int)} {p : Int} {fs : List (Int × Int × Int)} {on : Bool} (h1 : ss.length ≤ 1048576) (h2 : ws.length ≤ 1048576) (h3 : fs.length ≤ 1048576) :
    impl_DiskOk.f d (ss, ws, p, fs, on) = some (diskOkM ss ws p fs on) := by
  obtain ⟨d, rfl, _⟩ := dep hd
  rw [impl_DiskOk.t_eq]
  refine Tells.eq ?_
  have e4 : Tells (iter (impl_DiskOk.S4 d) rnds (fs, (fs.length : Int), (0 : Int), ss, ws, p, fs, on)) (· = faultsM none fs) := by
    have := loopE (impl_DiskOk.S4 d) fs.length (fun i => (fs, (fs.length : Int), i, ss, ws, p, fs, on)) (fun i r => r = (faultsM (before fs i) (fs.drop i) && true)) (by omega) (fun L => ?_) fun L i hi ih => ?_
    · simpa [before] using this
    · dsimp only [impl_DiskOk.S4, impl_DiskOk.s4]
      exact tn (by omega) (tl (by simp [faultsM]))
    · dsimp only [impl_DiskOk.S4, impl_DiskOk.s4]
      refine tp (by omega) (ti hi ?_)
      rw [getD_in hi, wrap_succ (by omega)]
      exact faults_round hi h3 (impl_in.sp (by omega)) ih true true true rfl rfl rfl
  have e2 : Tells (iter (impl_DiskOk.S2 d) rnds (ws, (ws.length : Int), (0 : Int), ss, ws, p, fs, on)) (· = (ws.all (wrOk ss.length) && faultsM none fs)) := by
    refine loopAll (impl_DiskOk.S2 d) ws (fun i => (ws, (ws.length : Int), i, ss, ws, p, fs, on)) _ _ (by omega) (fun L => ?_) fun L i hi e ih => ?_
    · dsimp only [impl_DiskOk.S2, impl_DiskOk.s2]
      exact tn (by omega) e4
    · dsimp only [impl_DiskOk.S2, impl_DiskOk.s2]
      refine tp (by omega) (ti hi ?_)
      rw [getD_in hi, wrap_succ (by omega), wrap_id (by omega) (by omega)]
      refine tc (impl_in.sp (by omega) _ _ _) (tbif (fun c => tl (by simp at c; simp [wrOk, c])) fun c => ?_)
      simp only [Bool.not_eq_false'] at c
      refine tif (fun c2 => tl (by simp [wrOk]; omega)) fun c2 => ih.mono fun r hr => ?_
      rw [hr, wrOk, c, decide_eq_true (by omega)]; rfl
  have e0 : Tells (iter (impl_DiskOk.S0 d) rnds (ss, (ss.length : Int), (0 : Int), ss, ws, p, fs, on)) (· = (ss.all secOk && (ws.all (wrOk ss.length) && faultsM none fs))) := by
    refine loopAll (impl_DiskOk.S0 d) ss (fun i => (ss, (ss.length : Int), i, ss, ws, p, fs, on)) _ _ (by omega) (fun L => ?_) fun L i hi e ih => ?_
    · dsimp only [impl_DiskOk.S0, impl_DiskOk.s0]
      exact tn (by omega) e2
    · dsimp only [impl_DiskOk.S0, impl_DiskOk.s0]
      refine tp (by omega) (ti hi ?_)
      rw [getD_in hi, wrap_succ (by omega)]
      refine tif (fun c2 => tl (by simp [secOk]; omega)) fun c2 => ih.mono fun r hr => ?_
      rw [hr, secOk, decide_eq_true (by omega)]; rfl
  dsimp only [impl_DiskOk.m]
  refine tc (impl_in.sp (by omega) _ _ _) (tbif (fun c => tl (by simp at c; simp [diskOkM, c])) fun c => ?_)
  refine tif (fun c2 => tl (by simp [diskOkM]; omega)) fun c2 => ?_
  refine tc (impl_in.sp (by omega) _ _ _) (tbif (fun c3 => tl (by simp at c3; simp [diskOkM, c3])) fun c3 => ?_)
  refine tif (fun c4 => tl (by simp [diskOkM, faultsOkM]; omega)) fun c4 => ?_
  simp only [Bool.not_eq_false'] at c c3
  have e : diskOkM ss ws p fs on = (ss.all secOk && (ws.all (wrOk ss.length) && faultsM none fs) && (!on || decide (ws.length = 0))) := by
    unfold diskOkM faultsOkM
    rw [c, c3, decide_eq_true (show (ws.length : Int) ≤ 60 by omega), decide_eq_true (show (fs.length : Int) ≤ 20 by omega)]
    simp [Bool.and_assoc]
  rw [e]
  refine tbif (fun c5 => tif (fun c6 => tl ?_) fun c6 => e0.mono fun r hr => ?_) fun c5 => e0.mono fun r hr => ?_
  · rw [c5, decide_eq_false (show ¬ ws.length = 0 by omega)]; simp
  · rw [hr, c5, decide_eq_true (show ws.length = 0 by omega)]; simp
  · rw [hr, c5]; simp
/-- a disk's rows are no longer than memory holds -/
def dkFit (x : Dk) : Prop := (x.1.length ≤ 140737488351232 ∧ ∀ y ∈ x.1, y.length ≤ 140737488351232) ∧ (x.2.1.length ≤ 140737488351232 ∧ ∀ y ∈ x.2.1, y.2.length ≤ 140737488351232) ∧ x.2.2.2.1.length ≤ 140737488351232
def ww (x : Int × List Int) : Nat := x.2.length + 1
def dkW (x : Dk) : Nat := wSum List.length x.1 + wSum ww x.2.1 + wSum (fun _ : Int × Int × Int => 3) x.2.2.2.1
def noDk : Dk := ([], [], 0, [], false)
def newDk (n : Int) (fs : List (Int × Int × Int)) : Dk := if inB n 4 48 = true ∧ faultsOkM fs = true then (List.replicate n.toNat [], [], 0, fs, false) else noDk
theorem spec_DiskNew.sp {d : Nat} (hd : 3 ≤ d) {n : Int} {fs : List (Int × Int × Int)} (hl : fs.length ≤ 1048576) : spec_DiskNew.f d (n, fs) = some (newDk n fs) := by
  obtain ⟨d, rfl, _⟩ := dep hd
  rw [spec_DiskNew.t_eq]
  dsimp only [spec_DiskNew.m]
  refine Tells.eq ?_
  refine tc (spec_l1In.sp (by omega) _ _ _) (tbif (fun c => tl (by simp at c; simp [newDk, c, noDk])) fun c => ?_)
  refine tc (spec_l12Faults.sp (by omega) hl) (tbif (fun c2 => tl (by simp at c2; simp [newDk, c2, noDk])) fun c2 => ?_)
  simp only [Bool.not_eq_false'] at c c2
  have e : newDk n fs = (List.replicate n.toNat [], [], 0, fs, false) := by unfold newDk; rw [if_pos ⟨c, c2⟩]
  rw [e]
  have hn := inB_iff.1 c
  refine tp (by simp only [List.length_nil, Nat.zero_add]; omega) ?_
  have hz : n = ((n.toNat : Nat) : Int) := by omega
  refine loop0 (σ := List (List Int)) (spec_DiskNew.S0 d) n.toNat (fun st i => (n, i, [], [], 0, [], false, st, [], 0, [] ++ fs, false)) (fun st i => st = List.replicate i []) (fun _ _ r => r = (List.replicate n.toNat [], [], 0, fs, false)) [] (by omega) rfl ?_ ?_
  · rintro L st rfl
    dsimp only [spec_DiskNew.S0, spec_DiskNew.s0]
    exact tn (by omega) (tl rfl)
  · rintro L st i rfl hi ih
    dsimp only [spec_DiskNew.S0, spec_DiskNew.s0]
    refine tp (by omega) (tp (by simp; omega) ?_)
    rw [wrap_succ (by omega)]
    exact ih _ (by rw [List.replicate_succ'])
def dkOk (x : Dk) : Prop := okV (.row (.one (.row (.one (.int .u8))))) x.1 ∧ okV (.row (.cons (.int .i64) (.one (.row (.one (.int .u8)))))) x.2.1 ∧ okV (.row (.cons (.int .i64) (.cons (.int .i64) (.one (.int .i64))))) x.2.2.2.1
theorem okRow_len {cs : SS} {l : List cs.T} (h : okV (.row cs) l) : l.length ≤ 140737488351232 := Nat.le_trans (Nat.le_mul_of_pos_right _ (SS.size_pos cs)) h.1
theorem dkOk.fit {x : Dk} (h : dkOk x) : dkFit x :=
  ⟨⟨okRow_len h.1, fun y hy => okRow_len (h.1.2 y hy)⟩, ⟨okRow_len (cs := .cons (.int .i64) (.one (.row (.one (.int .u8))))) h.2.1, fun y hy => okRow_len (h.2.1.2 y hy).2⟩, okRow_len (cs := .cons (.int .i64) (.cons (.int .i64) (.one (.int .i64)))) h.2.2⟩
/-- no more than a million -/
def dkSm (x : Dk) : Prop := (x.1.length ≤ 1048576 ∧ ∀ y ∈ x.1, y.length ≤ 1048576) ∧ (x.2.1.length ≤ 1048576 ∧ ∀ y ∈ x.2.1, y.2.length ≤ 1048576) ∧ x.2.2.2.1.length ≤ 1048576 ∧ dkW x ≤ 10000000
theorem sum_three (l : List (Int × Int × Int)) : wSum (fun _ : Int × Int × Int => 3) l = 3 * l.length := by
  induction l with
  | nil => rfl
  | cons y l ih => rw [wSum_cons, ih, List.length_cons]; omega
theorem dkSm.fit {x : Dk} (h : dkSm x) : dkFit x := ⟨⟨by have := h.1.1; omega, fun y hy => by have := h.1.2 y hy; omega⟩, ⟨by have := h.2.1.1; omega, fun y hy => by have := h.2.1.2 y hy; omega⟩, by have := h.2.2.1; omega⟩
def lastW (ws : List (Int × List Int)) (n : Int) (z : List Int) : List Int := match ws.reverse.find? (fun w => w.1 == n) with
  | some w => w.2
  | none => z
theorem lastW_snoc {ws : List (Int × List Int)} {i : Nat} (h : i < ws.length) {n : Int} {z : List Int} : lastW (ws.take (i + 1)) n z = if ws[i].1 = n then ws[i].2 else lastW (ws.take i) n z := by
  unfold lastW
  rw [List.take_add_one, List.getElem?_eq_getElem h, Option.toList_some, List.reverse_append, List.reverse_singleton, List.singleton_append, List.find?_cons]
  by_cases hn : ws[i].1 = n
  · rw [if_pos hn, show (ws[i].1 == n) = true by simpa using hn]
  · rw [if_neg hn, show (ws[i].1 == n) = false by simpa using hn]
def readM (x : Dk) (n : Int) : List Int × Bool := if inB n 0 ((x.1.length : Int) - 1) = true then (lastW x.2.1 n (x.1.getD n.toNat []), true) else ([], false)
theorem lastW_mem {ws : List (Int × List Int)} {n : Int} {z : List Int} {P : List Int → Prop} (hz : P z) (hw : ∀ w ∈ ws, P w.2) : P (lastW ws n z) := by
  unfold lastW
  split
  · rename_i w h; exact hw w (List.mem_reverse.1 (List.mem_of_find?_eq_some h))
  · exact hz
theorem readM_fit {x : Dk} {n : Int} {k : Nat} (h : (∀ y ∈ x.1, y.length ≤ k) ∧ ∀ y ∈ x.2.1, y.2.length ≤ k) : (readM x n).1.length ≤ k := by
  unfold readM
  split
  · rename_i hn
    have := inB_iff.1 hn
    have hi : n.toNat < x.1.length := by omega
    refine lastW_mem (P := fun l => l.length ≤ k) ?_ h.2
    rw [List.getD_eq_getElem?_getD, List.getElem?_eq_getElem hi]
    exact h.1 _ (List.getElem_mem hi)
  · simp
theorem impl_copyBytes.sp {d : Nat} (hd : 1 ≤ d) {l : List Int} (hl : l.length ≤ 140737488351232) : impl_copyBytes.f d l = some l := by
  obtain ⟨d, rfl, _⟩ := dep hd
  rw [impl_copyBytes.t_eq]
  dsimp only [impl_copyBytes.m]
  exact Tells.eq (tp (by simp only [List.length_nil, Nat.zero_add]; omega) (tl rfl))
theorem impl_ReadSec.sp {d : Nat} (hd : 2 ≤ d) {x : Dk} (hf : dkFit x) (n : Int) : impl_ReadSec.f d (x.1, x.2.1, x.2.2.1, x.2.2.2.1, x.2.2.2.2, n) = some (readM x n) := by
  obtain ⟨d, rfl, _⟩ := dep hd
  rw [impl_ReadSec.t_eq]
  dsimp only [impl_ReadSec.m]
  have hl1 := hf.1.1
  have hl2 := hf.2.1.1
  rw [wrap_id (by omega) (by omega), wrap_id (by omega) (by omega)]
  refine Tells.eq (tc (impl_in.sp (by omega) _ _ _) (tbif (fun c => tl (by simp at c; simp [readM, c])) fun c => ?_))
  simp only [Bool.not_eq_false'] at c
  have hn := inB_iff.1 c
  have e : readM x n = (lastW (x.2.1.take x.2.1.length) n (x.1.getD n.toNat []), true) := by unfold readM; rw [if_pos c, List.take_length]
  rw [e]
  have hi : n.toNat < x.1.length := by omega
  refine loopDown (impl_ReadSec.S0 d) x.2.1.length (fun i => (n, i, x.1, x.2.1, x.2.2.1, x.2.2.2.1, x.2.2.2.2)) (fun i r => r = (lastW (x.2.1.take i) n (x.1.getD n.toNat []), true)) (by omega) (fun L => ?_) fun L i hi ih => ?_
  · dsimp only [impl_ReadSec.S0, impl_ReadSec.s0]
    have hb := hf.1.2 _ (List.getElem_mem hi)
    refine tn (by omega) (tt (by simp; omega) (tc (impl_copyBytes.sp (by omega) ?_) (tl rfl)))
    rw [List.getD_eq_getElem?_getD, List.getElem?_eq_getElem hi]
    exact hb
  · dsimp only [impl_ReadSec.S0, impl_ReadSec.s0]
    rw [lastW_snoc hi, getD_in hi, wrap_id (by omega) (by omega)]
    refine tp (by omega) (ti hi (tbif (fun c => ti hi (tc (impl_copyBytes.sp (by omega) (hf.2.1.2 _ (List.getElem_mem hi))) (tl ?_))) fun c => ?_))
    · rw [if_pos (by simpa using c)]
    · rw [if_neg (by simpa using c)]; exact ih
theorem impl_copyDisk.sp {d : Nat} (hd : 2 ≤ d) {x : Dk} (h : dkSm x) : impl_copyDisk.f d (x.1, x.2.1, x.2.2.1, x.2.2.2.1, x.2.2.2.2) = some x := by
  obtain ⟨d, rfl, _⟩ := dep hd
  rw [impl_copyDisk.t_eq]
  dsimp only [impl_copyDisk.m]
  have a1 := h.1.1
  have a2 := h.2.1.1
  have a3 := h.2.2.1
  refine Tells.eq ?_
  refine loopApp (impl_copyDisk.S0 d) x.1 id (fun st i => (x.1, (x.1.length : Int), i, x.1, x.2.1, x.2.2.1, x.2.2.2.1, x.2.2.2.2, ([] : List (List Int)), ([] : List (Int × List Int)), (0 : Int), ([] : List (Int × Int × Int)), false, st)) _ (by omega) (fun L => ?_) fun L st i Q hi h1 ih => ?_
  · dsimp only [impl_copyDisk.S0, impl_copyDisk.s0]
    refine tn (by omega) ?_
    refine loopApp (impl_copyDisk.S2 d) x.2.1 id (fun st i => (x.2.1, (x.2.1.length : Int), i, x.1, x.2.1, x.2.2.1, x.2.2.2.1, x.2.2.2.2, ([] : List (List Int)), ([] : List (Int × List Int)), (0 : Int), ([] : List (Int × Int × Int)), false, x.1.map id, st)) _ (by omega) (fun L => ?_) fun L st i Q hi h1 ih => ?_
    · dsimp only [impl_copyDisk.S2, impl_copyDisk.s2]
      exact tn (by omega) (tp (by simp only [List.length_nil, Nat.zero_add]; omega) (tl (by simp)))
    · dsimp only [impl_copyDisk.S2, impl_copyDisk.s2]
      have := h.2.1.2 _ (List.getElem_mem hi)
      refine tp (by omega) (ti hi ?_)
      rw [getD_in hi, wrap_succ (by omega)]
      exact tc (impl_copyBytes.sp (by omega) (by omega)) (tp (by simp; omega) ih)
  · dsimp only [impl_copyDisk.S0, impl_copyDisk.s0]
    have := h.1.2 _ (List.getElem_mem hi)
    refine tp (by omega) (ti hi ?_)
    rw [getD_in hi, wrap_succ (by omega)]
    exact tc (impl_copyBytes.sp (by omega) (by omega)) (tp (by simp; omega) ih)
theorem spec_l12Copy.sp {d : Nat} (hd : 1 ≤ d) {x : Dk} (h : dkSm x) : spec_l12Copy.f d (x.1, x.2.1, x.2.2.1, x.2.2.2.1, x.2.2.2.2) = some x := by
  obtain ⟨d, rfl, _⟩ := dep hd
  rw [spec_l12Copy.t_eq]
  dsimp only [spec_l12Copy.m]
  have a1 := h.1.1
  have a2 := h.2.1.1
  have a3 := h.2.2.1
  refine Tells.eq (tp (by simp only [List.length_nil, Nat.zero_add]; omega) ?_)
  refine loopApp (spec_l12Copy.S0 d) x.1 id (fun st i => (i, x.1, x.2.1, x.2.2.1, x.2.2.2.1, x.2.2.2.2, ([] : List (List Int)), ([] : List (Int × List Int)), (0 : Int), ([] : List (Int × Int × Int)), false, st, ([] : List (Int × List Int)), x.2.2.1, ([] : List (Int × Int × Int)) ++ x.2.2.2.1, x.2.2.2.2)) _ (by omega) (fun L => ?_) fun L st i Q hi h1 ih => ?_
  · dsimp only [spec_l12Copy.S0, spec_l12Copy.s0]
    refine tn (by omega) ?_
    refine loopApp (spec_l12Copy.S2 d) x.2.1 id (fun st i => (i, x.1, x.2.1, x.2.2.1, x.2.2.2.1, x.2.2.2.2, ([] : List (List Int)), ([] : List (Int × List Int)), (0 : Int), ([] : List (Int × Int × Int)), false, x.1.map id, st, x.2.2.1, ([] : List (Int × Int × Int)) ++ x.2.2.2.1, x.2.2.2.2)) _ (by omega) (fun L => ?_) fun L st i Q hi h1 ih => ?_
    · dsimp only [spec_l12Copy.S2, spec_l12Copy.s2]
      exact tn (by omega) (tl (by simp))
    · dsimp only [spec_l12Copy.S2, spec_l12Copy.s2]
      have := h.2.1.2 _ (List.getElem_mem hi)
      refine tp (by omega) (ti hi (ti hi ?_))
      rw [getD_in hi, wrap_succ (by omega)]
      exact tp (by simp only [List.length_nil, Nat.zero_add]; omega) (tp (by simp; omega) (by simpa using ih))
  · dsimp only [spec_l12Copy.S0, spec_l12Copy.s0]
    have := h.1.2 _ (List.getElem_mem hi)
    refine tp (by omega) (ti hi ?_)
    rw [getD_in hi, wrap_succ (by omega)]
    exact tp (by simp only [List.length_nil, Nat.zero_add]; omega) (tp (by simp; omega) (by simpa using ih))
theorem spec_DiskOk.sp {d : Nat} (hd : 3 ≤ d) {ss : List (List Int)} {ws : List (Int × List Int)} {p : Int} {fs : List (Int × Int × Int)} {on : Bool} (h1 : ss.length ≤ 1048576) (h2 : ws.length ≤ 1048576) (h3 : fs.length ≤ 1048576) :
    spec_DiskOk.f d (ss, ws, p, fs, on) = some (diskOkM ss ws p fs on) := by
  obtain ⟨d, rfl, _⟩ := dep hd
  rw [spec_DiskOk.t_eq]
  dsimp only [spec_DiskOk.m]
  refine Tells.eq ?_
  have := loopAll (spec_DiskOk.S0 d) ss (fun i => (i, ss, ws, p, fs, on)) secOk (ws.all (wrOk ss.length) && (inB ss.length 4 48 && (decide ((ws.length : Int) ≤ 60) && (inB p 0 100000 && (faultsOkM fs && (!on || decide (ws.length = 0))))))) (by omega) (fun L => ?_) fun L i hi e ih => ?_
  · refine this.mono fun r hr => ?_
    rw [hr]; unfold diskOkM; simp only [Bool.and_assoc]
  · dsimp only [spec_DiskOk.S0, spec_DiskOk.s0]
    refine tn (by omega) ?_
    refine loopAll (spec_DiskOk.S2 d) ws (fun i => (i, ss, ws, p, fs, on)) (wrOk ss.length) _ (by omega) (fun L => ?_) fun L i hi e ih => ?_
    · dsimp only [spec_DiskOk.S2, spec_DiskOk.s2]
      refine tn (by omega) (tc (spec_l1In.sp (by omega) _ _ _) (tbif (fun c => ?_) fun c => tl (by rw [c]; rfl)))
      rw [c, Bool.true_and]
      refine tif (fun c2 => ?_) fun c2 => tl (by rw [decide_eq_false c2]; rfl)
      rw [decide_eq_true c2, Bool.true_and]
      refine tc (spec_l1In.sp (by omega) _ _ _) (tbif (fun c => ?_) fun c => tl (by rw [c]; rfl))
      rw [c, Bool.true_and]
      refine tc (spec_l12Faults.sp (by omega) h3) (tbif (fun c => ?_) fun c => tl (by rw [c]; rfl))
      rw [c, Bool.true_and]
      refine tbif (fun c => tl (by simp at c; rw [c]; rfl)) fun c => tl ?_
      simp only [Bool.not_eq_false'] at c
      rw [c, Bool.eq_iff_iff]
      simp
    · dsimp only [spec_DiskOk.S2, spec_DiskOk.s2]
      refine tp (by omega) (ti hi ?_)
      rw [getD_in hi, wrap_succ (by omega), wrap_id (by omega) (by omega)]
      refine tc (spec_l1In.sp (by omega) _ _ _) (tbif (fun c => tl (by simp at c; simp [wrOk, c])) fun c => ti hi ?_)
      simp only [Bool.not_eq_false'] at c
      refine tif (fun c2 => tl (by simp [wrOk]; omega)) fun c2 => ih.mono fun r hr => ?_
      rw [hr, wrOk, c, decide_eq_true (by omega)]; rfl
  · dsimp only [spec_DiskOk.S0, spec_DiskOk.s0]
    refine tp (by omega) (ti hi ?_)
    rw [getD_in hi, wrap_succ (by omega)]
    refine tif (fun c2 => tl (by simp [secOk]; omega)) fun c2 => ih.mono fun r hr => ?_
    rw [hr, secOk, decide_eq_true (by omega)]; rfl
def faultM (fs : List (Int × Int × Int)) (p : Int) : Int × Int × Int × Bool := match fs.find? (fun f => f.1 == p) with
  | some f => (f.1, f.2.1, f.2.2, true)
  | none => (0, 0, 0, false)
theorem faultM_cons {f : Int × Int × Int} {r : List (Int × Int × Int)} {p : Int} : faultM (f :: r) p = if f.1 = p then (f.1, f.2.1, f.2.2, true) else faultM r p := by
  unfold faultM
  rw [List.find?_cons]
  by_cases h : f.1 = p
  · rw [if_pos h, show (f.1 == p) = true by simpa using h]
  · rw [if_neg h, show (f.1 == p) = false by simpa using h]
theorem faultM_mem {fs : List (Int × Int × Int)} {p : Int} (h : (faultM fs p).2.2.2 = true) : ((faultM fs p).1, (faultM fs p).2.1, (faultM fs p).2.2.1) ∈ fs := by
  unfold faultM at h ⊢
  cases hf : fs.find? (fun f => f.1 == p) with
  | none => rw [hf] at h; cases h
  | some f => exact List.mem_of_find?_eq_some hf
theorem spec_l12Fault.sp {d : Nat} (hd : 1 ≤ d) {x : Dk} (h : dkFit x) : spec_l12Fault.f d (x.1, x.2.1, x.2.2.1, x.2.2.2.1, x.2.2.2.2) = some (faultM x.2.2.2.1 x.2.2.1) := by
  obtain ⟨d, rfl, _⟩ := dep hd
  rw [spec_l12Fault.t_eq]
  dsimp only [spec_l12Fault.m]
  have hl := h.2.2
  refine Tells.eq ?_
  refine loopE (spec_l12Fault.S0 d) x.2.2.2.1.length (fun i => (i, x.1, x.2.1, x.2.2.1, x.2.2.2.1, x.2.2.2.2, 0, 0, 0)) (fun i r => r = faultM (x.2.2.2.1.drop i) x.2.2.1) (by omega) (fun L => ?_) fun L i hi ih => ?_
  · dsimp only [spec_l12Fault.S0, spec_l12Fault.s0]
    exact tn (by omega) (tl (by simp [faultM]))
  · dsimp only [spec_l12Fault.S0, spec_l12Fault.s0]
    rw [drop_at hi, faultM_cons, getD_in hi, wrap_succ (by omega)]
    refine tp (by omega) (ti hi (tbif (fun c => ti hi (tl ?_)) fun c => ?_))
    · rw [if_pos (by simpa using c)]
    · rw [if_neg (by simpa using c)]; exact ih
theorem impl_Disk_fault.sp {d : Nat} (hd : 1 ≤ d) {x : Dk} (h : dkFit x) : impl_Disk_fault.f d (x.1, x.2.1, x.2.2.1, x.2.2.2.1, x.2.2.2.2) = some ((faultM x.2.2.2.1 x.2.2.1).1, (faultM x.2.2.2.1 x.2.2.1).2.1, (faultM x.2.2.2.1 x.2.2.1).2.2.1, (faultM x.2.2.2.1 x.2.2.1).2.2.2, x) := by
  obtain ⟨d, rfl, _⟩ := dep hd
  rw [impl_Disk_fault.t_eq]
  dsimp only [impl_Disk_fault.m]
  have hl := h.2.2
  refine Tells.eq ?_
  refine loopE (impl_Disk_fault.S0 d) x.2.2.2.1.length (fun i => ((x.2.2.2.1.length : Int), i, x.1, x.2.1, x.2.2.1, x.2.2.2.1, x.2.2.2.2, 0, 0, 0)) (fun i r => r = ((faultM (x.2.2.2.1.drop i) x.2.2.1).1, (faultM (x.2.2.2.1.drop i) x.2.2.1).2.1, (faultM (x.2.2.2.1.drop i) x.2.2.1).2.2.1, (faultM (x.2.2.2.1.drop i) x.2.2.1).2.2.2, x)) (by omega) (fun L => ?_) fun L i hi ih => ?_
  · dsimp only [impl_Disk_fault.S0, impl_Disk_fault.s0]
    exact tn (by omega) (tl (by simp [faultM]))
  · dsimp only [impl_Disk_fault.S0, impl_Disk_fault.s0]
    rw [drop_at hi, faultM_cons, getD_in hi, wrap_succ (by omega)]
    refine tp (by omega) (ti hi (tbif (fun c => tl ?_) fun c => ?_))
    · rw [if_pos (by simpa using c)]
    · rw [if_neg (by simpa using c)]; exact ih
def applyW : List (List Int) → List (Int × List Int) → List (List Int)
  | ss, [] => ss
  | ss, w :: r => applyW (ss.set w.1.toNat w.2) r
theorem applyW_snoc : ∀ {ws : List (Int × List Int)} {ss : List (List Int)} {w : Int × List Int}, applyW ss (ws ++ [w]) = (applyW ss ws).set w.1.toNat w.2
  | [], _, _ => rfl
  | _ :: r, ss, w => applyW_snoc (ws := r)
theorem applyW_len : ∀ {ws : List (Int × List Int)} {ss : List (List Int)}, (applyW ss ws).length = ss.length
  | [], _ => rfl
  | w :: r, ss => by rw [applyW, applyW_len (ws := r), List.length_set]
theorem applyW_all {P : List Int → Prop} : ∀ {ws : List (Int × List Int)} {ss : List (List Int)}, (∀ y ∈ ss, P y) → (∀ w ∈ ws, P w.2) → ∀ y ∈ applyW ss ws, P y
  | [], _, h, _ => h
  | w :: r, ss, h, hw => applyW_all (ws := r) (fun y hy => by
      rcases List.mem_or_eq_of_mem_set hy with h1 | h1
      · exact h y h1
      · rw [h1]; exact hw w (by simp)) fun x hx => hw x (by simp [hx])
/-- sectors that are there, rows that memory holds -/
def wrIn (n : Nat) (ws : List (Int × List Int)) : Prop := ∀ w ∈ ws, 0 ≤ w.1 ∧ w.1 < n ∧ w.2.length ≤ 1048576
theorem impl_Disk_settle.sp {d : Nat} (hd : 2 ≤ d) {ss : List (List Int)} {ws : List (Int × List Int)} {p : Int} {fs : List (Int × Int × Int)} {on : Bool} (hl : ws.length ≤ 1048576) (hw : wrIn ss.length ws) :
    impl_Disk_settle.f d (ss, ws, p, fs, on) = some (applyW ss ws, [], p, fs, on) := by
  obtain ⟨d, rfl, _⟩ := dep hd
  rw [impl_Disk_settle.t_eq]
  dsimp only [impl_Disk_settle.m]
  refine Tells.eq ?_
  refine loop0 (σ := List (List Int)) (impl_Disk_settle.S0 d) ws.length (fun st i => ((ws.length : Int), i, st, ws, p, fs, on)) (fun st i => st = applyW ss (ws.take i)) (fun _ _ r => r = (applyW ss ws, [], p, fs, on)) ss (by omega) rfl ?_ ?_
  · rintro L st rfl
    dsimp only [impl_Disk_settle.S0, impl_Disk_settle.s0]
    exact tn (by omega) (tl (by rw [List.take_length]))
  · rintro L st i rfl hi ih
    dsimp only [impl_Disk_settle.S0, impl_Disk_settle.s0]
    obtain ⟨w1, w2, w3⟩ := hw _ (List.getElem_mem hi)
    rw [getD_in hi, wrap_succ (by omega)]
    refine tp (by omega) (ti hi (tc (impl_copyBytes.sp (by omega) (by omega)) (tt ?_ (ih _ ?_))))
    · rw [applyW_len, decide_eq_true w1, decide_eq_true w2]; rfl
    · rw [List.take_add_one, List.getElem?_eq_getElem hi, Option.toList_some, applyW_snoc]
/-- the mask's bit -/
def bitM (m : Int) (i : Nat) : Int := IntKind.wrap IntKind.i64 ((BitVec.ofInt (IntKind.bits IntKind.i64) (Int.fdiv m (2 ^ (min i (IntKind.bits IntKind.i64)))) &&& BitVec.ofInt (IntKind.bits IntKind.i64) (1 : Int)).toNat : Int)
theorem bitM_one (m : Int) (i : Nat) : bitM m i = 0 ∨ bitM m i = 1 := by
  unfold bitM
  have h : (BitVec.ofInt (IntKind.bits IntKind.i64) (Int.fdiv m (2 ^ (min i (IntKind.bits IntKind.i64)))) &&& BitVec.ofInt (IntKind.bits IntKind.i64) (1 : Int)).toNat ≤ 1 := by
    rw [BitVec.toNat_and]
    exact Nat.and_le_right
  rw [wrap_id (by omega) (by omega)]
  omega
def isKept (m : Int) (i : Nat) : Bool := decide (i < 20) && (bitM m i == 1)
def keptW (m : Int) (ws : List (Int × List Int)) : Nat → List (Int × List Int)
  | 0 => []
  | n + 1 => keptW m ws n ++ (if isKept m n = true then (match ws[n]? with | some w => [w] | none => []) else [])
theorem keptW_len {m : Int} {ws : List (Int × List Int)} : ∀ {n : Nat}, (keptW m ws n).length ≤ n
  | 0 => Nat.le_refl _
  | n + 1 => by
    have := keptW_len (m := m) (ws := ws) (n := n)
    simp only [keptW, List.length_append]
    have h : (if isKept m n = true then (match ws[n]? with | some w => [w] | none => []) else []).length ≤ 1 := by
      split
      · split <;> simp
      · simp
    omega
theorem keptW_mem {m : Int} {ws : List (Int × List Int)} : ∀ {n : Nat} {w : Int × List Int}, w ∈ keptW m ws n → w ∈ ws
  | 0, w, h => by cases h
  | n + 1, w, h => by
    simp only [keptW, List.mem_append] at h
    rcases h with h | h
    · exact keptW_mem h
    · split at h
      · split at h
        · rename_i w' hw
          simp only [List.mem_singleton] at h
          rw [h]; exact List.mem_of_getElem? hw
        · cases h
      · cases h
theorem keptW_same {m : Int} {ws : List (Int × List Int)} {n : Nat} : ∀ k, (∀ j, n ≤ j → isKept m j = false ∨ ws.length ≤ j) → keptW m ws (n + k) = keptW m ws n
  | 0, _ => rfl
  | k + 1, h => by
    rw [← Nat.add_assoc]
    simp only [keptW]
    rw [keptW_same k h]
    rcases h (n + k) (by omega) with h1 | h1
    · rw [h1]; simp
    · rw [List.getElem?_eq_none h1]; simp
/-- the last one is cut -/
def cutW (c : Int) (w : Int × List Int) : Int × List Int := (w.1, w.2.take c.toNat)
def cutLast (c : Int) (l : List (Int × List Int)) : List (Int × List Int) := match l.getLast? with
  | none => []
  | some w => l.dropLast ++ [cutW c w]
theorem cutLast_snoc {c : Int} {l : List (Int × List Int)} {w : Int × List Int} : cutLast c (l ++ [w]) = l ++ [cutW c w] := by
  unfold cutLast
  rw [List.getLast?_concat, List.dropLast_concat]
def loseM (x : Dk) (m c : Int) : Dk := (applyW x.1 (cutLast c (keptW m x.2.1 x.2.1.length)), [], x.2.2.1, x.2.2.2.1, true)
theorem take_min {l : List Int} {c : Int} (h : 0 ≤ c) : l.take (Int.toNat (bif decide ((l.length : Int) < c) then (l.length : Int) else c)) = l.take c.toNat := by
  by_cases hc : (l.length : Int) < c
  · rw [decide_eq_true hc, cond_true, Int.toNat_natCast, List.take_length, List.take_of_length_le (by omega)]
  · rw [decide_eq_false hc, cond_false]
theorem impl_Disk_lose.sp {d : Nat} (hd : 3 ≤ d) {x : Dk} {p m c : Int} (hl : x.2.1.length ≤ 1048576) (hw : wrIn x.1.length x.2.1) (hc : 0 ≤ c) : impl_Disk_lose.f d (x.1, x.2.1, x.2.2.1, x.2.2.2.1, x.2.2.2.2, p, m, c) = some (loseM x m c) := by
  obtain ⟨d, rfl, _⟩ := dep hd
  rw [impl_Disk_lose.t_eq]
  dsimp only [impl_Disk_lose.m]
  refine Tells.eq ?_
  refine loop0 (σ := List (Int × List Int)) (impl_Disk_lose.S0 d) x.2.1.length (fun st i => ((x.2.1.length : Int), i, x.1, x.2.1, x.2.2.1, x.2.2.2.1, x.2.2.2.2, p, m, c, st)) (fun st i => st = keptW m x.2.1 i) (fun _ _ r => r = loseM x m c) [] (by omega) rfl ?_ ?_
  · rintro L st rfl
    dsimp only [impl_Disk_lose.S0, impl_Disk_lose.s0]
    refine tn (by omega) ?_
    have hk := keptW_len (m := m) (ws := x.2.1) (n := x.2.1.length)
    have hin : ∀ w ∈ keptW m x.2.1 x.2.1.length, 0 ≤ w.1 ∧ w.1 < x.1.length ∧ w.2.length ≤ 1048576 := fun w h => hw w (keptW_mem h)
    unfold loseM
    revert hin hk
    generalize keptW m x.2.1 x.2.1.length = ks
    intro hk hin
    refine tif (fun h => ?_) fun h => ?_
    · have hne : ks ≠ [] := by rintro rfl; simp at h
      obtain ⟨ls, w, rfl⟩ : ∃ ls w, ks = ls ++ [w] := ⟨ks.dropLast, ks.getLast hne, (List.dropLast_concat_getLast hne).symm⟩
      have e : IntKind.wrap IntKind.i64 (((ls ++ [w]).length : Int) - 1) = ((ls.length : Nat) : Int) := by rw [wrap_id (by omega) (by omega)]; simp
      have hlt : ls.length < (ls ++ [w]).length := by simp
      rw [e, getD_in hlt]
      have ew : (ls ++ [w])[ls.length] = w := by simp
      simp only [ew]
      refine ti hlt (tt ?_ (ti hlt ?_))
      · by_cases hcc : (w.2.length : Int) < c
        · rw [decide_eq_true hcc, cond_true]; simp
        · rw [decide_eq_false hcc, cond_false]; simp; omega
      · have es : List.set (ls ++ [w]) (Int.toNat ((ls.length : Nat) : Int)) (w.1, List.drop (Int.toNat (0 : Int)) (List.take (Int.toNat (bif decide ((w.2.length : Int) < c) then (w.2.length : Int) else c)) w.2)) = cutLast c (ls ++ [w]) := by
          rw [cutLast_snoc, take_min hc, Int.toNat_natCast, List.set_append_right _ _ (Nat.le_refl _)]
          simp [cutW]
        rw [es]
        have hin2 : wrIn x.1.length (cutLast c (ls ++ [w])) := by
          rw [cutLast_snoc]
          intro v hv
          rcases List.mem_append.1 hv with h1 | h1
          · exact hin v (by simp [h1])
          · obtain rfl := List.mem_singleton.1 h1
            obtain ⟨a, b, e⟩ := hin w (by simp)
            exact ⟨a, b, by simp only [cutW, List.length_take]; omega⟩
        refine tc (impl_Disk_settle.sp (by omega) ?_ hin2) (tl rfl)
        rw [cutLast_snoc]
        simp only [List.length_append, List.length_singleton] at hk ⊢
        omega
    · obtain rfl : ks = [] := by cases ks with | nil => rfl | cons a b => simp at h
      refine tc (impl_Disk_settle.sp (by omega) (by simp) (fun v hv => by cases hv)) (tl rfl)
  · rintro L st i rfl hi ih
    dsimp only [impl_Disk_lose.S0, impl_Disk_lose.s0]
    rw [getD_in hi, wrap_succ (by omega), Int.toNat_natCast]
    have hk := keptW_len (m := m) (ws := x.2.1) (n := i)
    refine tp (by omega) (ti hi (tif (fun c1 => tp (by omega) (tbif (fun c2 => tp ?_ (ih _ ?_)) fun c2 => ih _ ?_)) fun c1 => ih _ ?_))
    · simp only [List.length_cons, List.length_nil]; omega
    · have e : isKept m i = true := by unfold isKept bitM; rw [c2, decide_eq_true (by omega)]; rfl
      simp only [keptW, e, if_true, List.getElem?_eq_getElem hi]
    · have e : isKept m i = false := by unfold isKept bitM; rw [c2]; simp
      simp only [keptW, e, Bool.false_eq_true, if_false, List.append_nil]
    · have e : isKept m i = false := by unfold isKept; rw [decide_eq_false (by omega)]; rfl
      simp only [keptW, e, Bool.false_eq_true, if_false, List.append_nil]
theorem wrap_u64 {i : Nat} (h : i < 4611686018427387904) : IntKind.wrap IntKind.u64 (i : Int) = (i : Int) := by
  have e : (2 : Int) ^ 64 = 18446744073709551616 := by decide
  simp only [IntKind.wrap, IntKind.signed, IntKind.bits, Bool.false_and, Bool.false_eq_true, if_false, e]
  omega
theorem keptW_at {m : Int} {ws : List (Int × List Int)} {j : Nat} (h : j < ws.length) (hk : isKept m j = true) : keptW m ws (j + 1) = keptW m ws j ++ [ws[j]] := by
  simp only [keptW, hk, if_true, List.getElem?_eq_getElem h]
theorem keptW_not {m : Int} {ws : List (Int × List Int)} {j : Nat} (hk : isKept m j = false) : keptW m ws (j + 1) = keptW m ws j := by
  simp only [keptW, hk, Bool.false_eq_true, if_false, List.append_nil]
theorem spec_l12Lose.sp {d : Nat} (hd : 1 ≤ d) {x : Dk} {p m c : Int} (hl : x.2.1.length ≤ 1048576) (hw : wrIn x.1.length x.2.1) (hc : 0 ≤ c) : spec_l12Lose.f d (x.1, x.2.1, x.2.2.1, x.2.2.2.1, x.2.2.2.2, p, m, c) = some (loseM x m c) := by
  obtain ⟨d, rfl, _⟩ := dep hd
  rw [spec_l12Lose.t_eq]
  dsimp only [spec_l12Lose.m]
  refine Tells.eq ?_
  have hall : keptW m x.2.1 x.2.1.length = keptW m x.2.1 (min x.2.1.length 20) := by
    have h := keptW_same (m := m) (ws := x.2.1) (n := min x.2.1.length 20) (x.2.1.length - min x.2.1.length 20) fun j hj => by
      by_cases h20 : j < 20
      · exact .inr (by omega)
      · exact .inl (by unfold isKept; rw [decide_eq_false h20]; rfl)
    rwa [show min x.2.1.length 20 + (x.2.1.length - min x.2.1.length 20) = x.2.1.length by omega] at h
  -- the second round over the writes
  have two : ∀ st : Int, ((st = -1 ∧ keptW m x.2.1 x.2.1.length = []) ∨ ∃ j : Nat, st = j ∧ j < 20 ∧ j < x.2.1.length ∧ isKept m j = true ∧ keptW m x.2.1 x.2.1.length = keptW m x.2.1 (j + 1)) →
      Tells (iter (spec_l12Lose.S2 d) rnds (st, (0 : Int), x.1, x.2.1, x.2.2.1, x.2.2.2.1, x.2.2.2.2, p, m, c)) (· = loseM x m c) := by
    rintro st (⟨rfl, h⟩ | ⟨j, rfl, hj20, hj, hkj, h⟩)
    · refine loop0 (σ := Unit) (spec_l12Lose.S2 d) 0 (fun _ i => (-1, i, x.1, x.2.1, x.2.2.1, x.2.2.2.1, x.2.2.2.2, p, m, c)) (fun _ _ => True) (fun _ _ r => r = loseM x m c) () (by omega) trivial ?_ ?_
      · rintro L _ _
        dsimp only [spec_l12Lose.S2, spec_l12Lose.s2]
        exact tn (by omega) (tl (by unfold loseM; rw [h]; rfl))
      · intro _ _ i _ hi; cases hi
    · refine loop0 (σ := List (List Int)) (spec_l12Lose.S2 d) (j + 1) (fun st i => (j, i, st, x.2.1, x.2.2.1, x.2.2.2.1, x.2.2.2.2, p, m, c)) (fun st i => st = if i ≤ j then applyW x.1 (keptW m x.2.1 i) else applyW x.1 (cutLast c (keptW m x.2.1 (j + 1)))) (fun _ _ r => r = loseM x m c) x.1 (by omega) (by rw [if_pos (Nat.zero_le _)]; rfl) ?_ ?_
      · rintro L st rfl
        dsimp only [spec_l12Lose.S2, spec_l12Lose.s2]
        rw [if_neg (by omega)]
        exact tn (by omega) (tl (by unfold loseM; rw [h]))
      · rintro L st i rfl hi ih
        have hi' : i < x.2.1.length := by omega
        obtain ⟨w1, w2, w3⟩ := hw _ (List.getElem_mem hi')
        have hlen : (applyW x.1 (keptW m x.2.1 i)).length = x.1.length := applyW_len
        dsimp only [spec_l12Lose.S2, spec_l12Lose.s2]
        rw [if_pos (by omega), getD_in hi', wrap_succ (by omega), wrap_u64 (by omega), Int.toNat_natCast]
        refine tp (by omega) (ti hi' (tp (by omega) (tbif (fun c0 => ih _ ?_) fun c0 => ?_)))
        · have hb : isKept m i = false := by
            unfold isKept bitM
            have : (IntKind.wrap IntKind.i64 ((BitVec.ofInt (IntKind.bits IntKind.i64) (Int.fdiv m (2 ^ (min i (IntKind.bits IntKind.i64)))) &&& BitVec.ofInt (IntKind.bits IntKind.i64) (1 : Int)).toNat : Int)) = 0 := by simpa using c0
            rw [this]; simp
          have hne : i ≠ j := by rintro rfl; rw [hkj] at hb; cases hb
          rw [if_pos (by omega), keptW_not hb]
        · have hb : isKept m i = true := by
            have h1 := bitM_one m i
            unfold isKept
            rw [decide_eq_true (by omega)]
            unfold bitM at h1 ⊢
            rcases h1 with h1 | h1
            · rw [h1] at c0; cases c0
            · rw [h1]; rfl
          refine tbif (fun c1 => ?_) fun c1 => ?_
          · have e : i = j := by have := of_decide_eq_true c1; omega
            subst e
            refine tif (fun c2 => tt ?_ (tp ?_ (tt ?_ (ih _ ?_)))) fun c2 => tp ?_ (tt ?_ (ih _ ?_))
            · simp; omega
            · simp; omega
            · rw [hlen, decide_eq_true w1, decide_eq_true w2]; rfl
            · rw [if_neg (by omega), keptW_at hi' hb, cutLast_snoc, applyW_snoc]
              simp [cutW]
            · simp; omega
            · rw [hlen, decide_eq_true w1, decide_eq_true w2]; rfl
            · rw [if_neg (by omega), keptW_at hi' hb, cutLast_snoc, applyW_snoc]
              simp only [cutW, List.nil_append]
              rw [List.take_of_length_le (by omega)]
          · have e : i ≠ j := by rintro rfl; simp at c1
            refine tp ?_ (tt ?_ (ih _ ?_))
            · simp; omega
            · rw [hlen, decide_eq_true w1, decide_eq_true w2]; rfl
            · rw [if_pos (by omega), keptW_at hi' hb, applyW_snoc, List.nil_append]
  refine loop0 (σ := Int) (spec_l12Lose.S0 d) (min x.2.1.length 20) (fun st i => (st, i, x.1, x.2.1, x.2.2.1, x.2.2.2.1, x.2.2.2.2, p, m, c))
    (fun st i => (st = -1 ∧ keptW m x.2.1 i = []) ∨ ∃ j : Nat, st = j ∧ j < i ∧ isKept m j = true ∧ keptW m x.2.1 i = keptW m x.2.1 (j + 1)) (fun _ _ r => r = loseM x m c) (-1) (by omega) (.inl ⟨rfl, rfl⟩) ?_ ?_
  · rintro L st hI
    have h2 := two st (by
      rcases hI with ⟨h1, h2⟩ | ⟨j, h1, h2, h3, h4⟩
      · exact .inl ⟨h1, by rw [hall]; exact h2⟩
      · exact .inr ⟨j, h1, by omega, by omega, h3, by rw [hall]; exact h4⟩)
    dsimp only [spec_l12Lose.S0, spec_l12Lose.s0]
    exact tif (fun c1 => tn (by omega) h2) fun _ => h2
  · rintro L st i hI hi ih
    dsimp only [spec_l12Lose.S0, spec_l12Lose.s0]
    rw [wrap_succ (by omega), wrap_u64 (by omega), Int.toNat_natCast]
    refine tp (by omega) (tp (by omega) (tp (by omega) (tbif (fun c1 => ih _ ?_) fun c1 => ih _ ?_)))
    · have hb : isKept m i = true := by unfold isKept bitM; rw [c1, decide_eq_true (by omega)]; rfl
      exact .inr ⟨i, rfl, by omega, hb, rfl⟩
    · have hb : isKept m i = false := by unfold isKept bitM; rw [c1]; simp
      rw [keptW_not hb]
      rcases hI with h1 | ⟨j, h1, h2, h3, h4⟩
      · exact .inl h1
      · exact .inr ⟨j, h1, by omega, h3, h4⟩
def dkGood (x : Dk) : Prop := dkSm x ∧ wrIn x.1.length x.2.1 ∧ (∀ f ∈ x.2.2.2.1, 0 ≤ f.2.2) ∧ x.2.2.1 ≤ 1000000000 ∧ -1000000000 ≤ x.2.2.1
def pulsed (x : Dk) : Dk := (x.1, x.2.1, x.2.2.1 + 1, x.2.2.2.1, x.2.2.2.2)
def flushM (x : Dk) : Int × Dk :=
  if x.2.2.2.2 = true then (9, x) else if x.2.2.1 ≥ 100000 then (9, x)
  else if (faultM x.2.2.2.1 x.2.2.1).2.2.2 = true then (9, loseM (pulsed x) (faultM x.2.2.2.1 x.2.2.1).2.1 (faultM x.2.2.2.1 x.2.2.1).2.2.1)
  else (0, applyW x.1 x.2.1, [], x.2.2.1 + 1, x.2.2.2.1, x.2.2.2.2)
theorem spec_l12Flush.sp {d : Nat} (hd : 2 ≤ d) {x : Dk} (h : dkGood x) : spec_l12Flush.f d (x.1, x.2.1, x.2.2.1, x.2.2.2.1, x.2.2.2.2) = some (flushM x) := by
  obtain ⟨d, rfl, _⟩ := dep hd
  rw [spec_l12Flush.t_eq]
  dsimp only [spec_l12Flush.m]
  obtain ⟨sm, hw, hf, hp1, hp2⟩ := h
  unfold flushM
  refine Tells.eq (tbif (fun c1 => tl (by rw [if_pos c1])) fun c1 => ?_)
  rw [if_neg (by rw [c1]; simp)]
  refine tif (fun c2 => tl (by rw [if_pos c2])) fun c2 => ?_
  rw [if_neg c2, wrap_id (by omega) (by omega)]
  refine tc (spec_l12Fault.sp (by omega) sm.fit) (tbif (fun c3 => ?_) fun c3 => ?_)
  · rw [if_pos c3]
    have hcut := hf _ (faultM_mem c3)
    exact tc (spec_l12Lose.sp (x := pulsed x) (by omega) sm.2.1.1 hw hcut) (tl rfl)
  · rw [if_neg (by rw [c3]; simp)]
    have hl := sm.2.1.1
    refine loop0 (σ := List (List Int)) (spec_l12Flush.S0 d) x.2.1.length (fun st i => (i, st, x.2.1, x.2.2.1 + 1, x.2.2.2.1, x.2.2.2.2)) (fun st i => st = applyW x.1 (x.2.1.take i)) (fun _ _ r => r = (0, applyW x.1 x.2.1, [], x.2.2.1 + 1, x.2.2.2.1, x.2.2.2.2)) x.1 (by omega) rfl ?_ ?_
    · rintro L st rfl
      dsimp only [spec_l12Flush.S0, spec_l12Flush.s0]
      exact tn (by omega) (tl (by rw [List.take_length]))
    · rintro L st i rfl hi ih
      dsimp only [spec_l12Flush.S0, spec_l12Flush.s0]
      obtain ⟨w1, w2, w3⟩ := hw _ (List.getElem_mem hi)
      rw [getD_in hi, wrap_succ (by omega)]
      refine tp (by omega) (ti hi (ti hi (tt ?_ (ih _ ?_))))
      · rw [applyW_len, decide_eq_true w1, decide_eq_true w2]; rfl
      · rw [List.take_add_one, List.getElem?_eq_getElem hi, Option.toList_some, applyW_snoc]
theorem diskOk_good {x : Dk} (sm : dkSm x) (h : diskOkM x.1 x.2.1 x.2.2.1 x.2.2.2.1 x.2.2.2.2 = true) : dkGood x := by
  unfold diskOkM at h
  simp only [Bool.and_eq_true] at h
  obtain ⟨⟨⟨⟨⟨⟨h1, h2⟩, h3⟩, h4⟩, h5⟩, h6⟩, h7⟩ := h
  have hp := inB_iff.1 h5
  refine ⟨sm, fun w hw => ?_, fun f hf => ?_, by omega, by omega⟩
  · have := List.all_eq_true.1 h2 w hw
    unfold wrOk at this
    simp only [Bool.and_eq_true, decide_eq_true_eq] at this
    have hi := inB_iff.1 this.1
    exact ⟨by omega, by omega, by omega⟩
  · unfold faultsOkM at h6
    simp only [Bool.and_eq_true] at h6
    have key : ∀ (l : List (Int × Int × Int)) (o : Option (Int × Int × Int)), faultsM o l = true → ∀ f ∈ l, 0 ≤ f.2.2 := by
      intro l
      induction l with
      | nil => intro _ _ f hf; cases hf
      | cons a r ih =>
        intro o ho f hf
        simp only [faultsM, Bool.and_eq_true] at ho
        obtain ⟨ha, hr⟩ := ho
        rcases List.mem_cons.1 hf with rfl | hf
        · unfold fOk at ha
          simp only [Bool.and_eq_true] at ha
          exact (inB_iff.1 ha.2.2).1
        · cases o with
          | none => exact ih _ hr f hf
          | some y =>
            simp only [Bool.and_eq_true] at hr
            exact ih _ hr.2 f hf
    exact key _ _ h6.1 f hf
def flushAll (x : Dk) : (List (List Int)) × (List (Int × (List Int))) × Int × (List (Int × Int × Int)) × Bool × Int :=
  if diskOkM x.1 x.2.1 x.2.2.1 x.2.2.2.1 x.2.2.2.2 = true then ((flushM x).2.1, (flushM x).2.2.1, (flushM x).2.2.2.1, (flushM x).2.2.2.2.1, (flushM x).2.2.2.2.2, (flushM x).1) else (x.1, x.2.1, x.2.2.1, x.2.2.2.1, x.2.2.2.2, 1)
theorem impl_Flush.sp {d : Nat} (hd : 4 ≤ d) {x : Dk} (sm : dkSm x) : impl_Flush.f d (x.1, x.2.1, x.2.2.1, x.2.2.2.1, x.2.2.2.2) = some (flushAll x) := by
  obtain ⟨d, rfl, _⟩ := dep hd
  rw [impl_Flush.t_eq]
  dsimp only [impl_Flush.m]
  unfold flushAll
  refine Tells.eq (tc (impl_copyDisk.sp (by omega) sm) (tc (impl_DiskOk.sp (by omega) sm.1.1 sm.2.1.1 sm.2.2.1) (tbif (fun c => tl ?_) fun c => ?_)))
  · simp only [Bool.not_eq_true'] at c; rw [c]; rfl
  · simp only [Bool.not_eq_false'] at c
    rw [if_pos c]
    obtain ⟨_, hw, hf, hp1, hp2⟩ := diskOk_good sm c
    unfold flushM
    refine tbif (fun c1 => tl (by rw [if_pos c1])) fun c1 => ?_
    rw [if_neg (by rw [c1]; simp)]
    refine tif (fun c2 => tl (by rw [if_pos c2])) fun c2 => ?_
    rw [if_neg c2]
    refine tc (impl_Disk_fault.sp (by omega) sm.fit) ?_
    dsimp only
    rw [wrap_id (by omega) (by omega)]
    refine tbif (fun c3 => ?_) fun c3 => ?_
    · rw [if_pos c3]
      exact tc (impl_Disk_lose.sp (x := pulsed x) (by omega) sm.2.1.1 hw (hf _ (faultM_mem c3))) (tl rfl)
    · rw [if_neg (by rw [c3]; simp)]
      exact tc (impl_Disk_settle.sp (by omega) sm.2.1.1 hw) (tl rfl)
theorem wSum_le {β : Type} {w : β → Nat} {k : Nat} : ∀ {l : List β}, (∀ x ∈ l, w x ≤ k) → wSum w l ≤ l.length * k
  | [], _ => Nat.zero_le _
  | x :: l, h => by
    have := wSum_le (l := l) fun y hy => h y (by simp [hy])
    have h0 := h x (by simp)
    rw [wSum_cons, List.length_cons, Nat.add_mul]
    omega
/-- rows and numbers of a size that may be marked -/
def dkB (x : Dk) : Prop := (x.1.length ≤ 1048577 ∧ ∀ y ∈ x.1, y.length ≤ 1048577) ∧ (x.2.1.length ≤ 1048577 ∧ ∀ y ∈ x.2.1, y.2.length ≤ 1048577) ∧ x.2.2.2.1.length ≤ 1048577
theorem dkB.fit {x : Dk} (h : dkB x) : dkFit x := ⟨⟨by have := h.1.1; omega, fun y hy => by have := h.1.2 y hy; omega⟩, ⟨by have := h.2.1.1; omega, fun y hy => by have := h.2.1.2 y hy; omega⟩, by have := h.2.2; omega⟩
theorem dkSm.b {x : Dk} (h : dkSm x) : dkB x := ⟨⟨by have := h.1.1; omega, fun y hy => by have := h.1.2 y hy; omega⟩, ⟨by have := h.2.1.1; omega, fun y hy => by have := h.2.1.2 y hy; omega⟩, by have := h.2.2.1; omega⟩
abbrev Dc := (List (List Int)) × (List (Int × (List Int))) × Int × (List (Int × Int × Int)) × Bool × Int
def dkOf (r : Dc) : Dk := (r.1, r.2.1, r.2.2.1, r.2.2.2.1, r.2.2.2.2.1)
theorem keptW_fit {m : Int} {ws : List (Int × List Int)} {n k : Nat} (h : ∀ w ∈ ws, w.2.length ≤ k) {c : Int} : ∀ w ∈ cutLast c (keptW m ws n), w.2.length ≤ k := by
  intro w hw
  unfold cutLast at hw
  split at hw
  · cases hw
  · rename_i v hv
    have hm := List.mem_of_getLast? hv
    rcases List.mem_append.1 hw with h1 | h1
    · exact h w (keptW_mem (List.dropLast_subset _ h1))
    · obtain rfl := List.mem_singleton.1 h1
      have := h v (keptW_mem hm)
      simp only [cutW, List.length_take]
      omega
theorem loseM_b {x : Dk} {m c : Int} (h : dkB x) : dkB (loseM x m c) :=
  ⟨⟨by unfold loseM; rw [applyW_len]; exact h.1.1, applyW_all h.1.2 (keptW_fit h.2.1.2)⟩, ⟨Nat.zero_le _, fun y hy => by cases hy⟩, h.2.2⟩
def wrote (x : Dk) (n : Int) (b : List Int) : Dk := (x.1, x.2.1 ++ [(n, b)], x.2.2.1 + 1, x.2.2.2.1, x.2.2.2.2)
def writeM (x : Dk) (n : Int) (b : List Int) : Int × Dk :=
  if x.2.2.2.2 = true then (9, x) else if x.2.2.1 ≥ 100000 then (9, x) else if (x.2.1.length : Int) ≥ 60 then (1, x)
  else if (faultM x.2.2.2.1 x.2.2.1).2.2.2 = true then (9, loseM (wrote x n b) (faultM x.2.2.2.1 x.2.2.1).2.1 (faultM x.2.2.2.1 x.2.2.1).2.2.1)
  else (0, wrote x n b)
def packC (r : Int × Dk) : Dc := (r.2.1, r.2.2.1, r.2.2.2.1, r.2.2.2.2.1, r.2.2.2.2.2, r.1)
def writeAll (x : Dk) (n : Int) (b : List Int) : Dc :=
  if diskOkM x.1 x.2.1 x.2.2.1 x.2.2.2.1 x.2.2.2.2 = true ∧ inB n 0 ((x.1.length : Int) - 1) = true ∧ ¬ (b.length : Int) > 256 ∧ ¬ (x.2.1.length : Int) ≥ 60 then packC (writeM x n b) else packC (1, x)
theorem wrote_in {x : Dk} {n : Int} {b : List Int} (hw : wrIn x.1.length x.2.1) (hn : inB n 0 ((x.1.length : Int) - 1) = true) (hb : b.length ≤ 1048576) : wrIn (wrote x n b).1.length (wrote x n b).2.1 := by
  intro w h
  have hi := inB_iff.1 hn
  rcases List.mem_append.1 h with h1 | h1
  · exact hw w h1
  · obtain rfl := List.mem_singleton.1 h1
    exact ⟨hi.1, by unfold wrote; simp only; omega, hb⟩
theorem spec_l12Write.sp {d : Nat} (hd : 2 ≤ d) {x : Dk} (h : dkGood x) {n : Int} {b : List Int} (hn : inB n 0 ((x.1.length : Int) - 1) = true) (hb : b.length ≤ 1048576) : spec_l12Write.f d (x.1, x.2.1, x.2.2.1, x.2.2.2.1, x.2.2.2.2, n, b) = some (writeM x n b) := by
  obtain ⟨d, rfl, _⟩ := dep hd
  rw [spec_l12Write.t_eq]
  dsimp only [spec_l12Write.m]
  obtain ⟨sm, hw, hf, hp1, hp2⟩ := h
  unfold writeM
  refine Tells.eq (tbif (fun c1 => tl (by rw [if_pos c1])) fun c1 => ?_)
  rw [if_neg (by rw [c1]; simp)]
  refine tif (fun c2 => tl (by rw [if_pos c2])) fun c2 => ?_
  rw [if_neg c2]
  refine tif (fun c3 => tl (by rw [if_pos c3])) fun c3 => ?_
  rw [if_neg c3, wrap_id (by omega) (by omega)]
  refine tc (spec_l12Fault.sp (by omega) sm.fit) (tp (by simp; omega) (tp (by simp; omega) (tbif (fun c3 => ?_) fun c3 => ?_)))
  · rw [if_pos c3]
    exact tc (spec_l12Lose.sp (x := wrote x n b) (by omega) (by unfold wrote; simp; omega) (wrote_in hw hn hb) (hf _ (faultM_mem c3))) (tl rfl)
  · rw [if_neg (by rw [c3]; simp)]
    exact tl rfl
theorem spec_WriteSec.sp {d : Nat} (hd : 4 ≤ d) {x : Dk} (sm : dkSm x) (n : Int) {b : List Int} (hb : b.length ≤ 1048576) : spec_WriteSec.f d (x.1, x.2.1, x.2.2.1, x.2.2.2.1, x.2.2.2.2, n, b) = some (writeAll x n b) := by
  obtain ⟨d, rfl, _⟩ := dep hd
  rw [spec_WriteSec.t_eq]
  dsimp only [spec_WriteSec.m]
  have hl := sm.1.1
  rw [wrap_id (by omega) (by omega)]
  unfold writeAll
  refine Tells.eq (tc (spec_l12Copy.sp (by omega) sm) (tc (spec_DiskOk.sp (by omega) sm.1.1 sm.2.1.1 sm.2.2.1) (tbif (fun c => tl ?_) fun c => ?_)))
  · simp only [Bool.not_eq_true'] at c; rw [if_neg (by rw [c]; simp)]; rfl
  simp only [Bool.not_eq_false'] at c
  refine tc (spec_l1In.sp (by omega) _ _ _) (tbif (fun c2 => tl ?_) fun c2 => ?_)
  · simp only [Bool.not_eq_true'] at c2; rw [if_neg (by rw [c2]; simp)]; rfl
  simp only [Bool.not_eq_false'] at c2
  refine tif (fun c3 => tl ?_) fun c3 => tif (fun c4 => tl ?_) fun c4 => ?_
  · rw [if_neg fun h => h.2.2.1 c3]; rfl
  · rw [if_neg fun h => h.2.2.2 c4]; rfl
  · rw [if_pos ⟨c, c2, c3, c4⟩]
    exact tc (spec_l12Write.sp (by omega) (diskOk_good sm c) c2 hb) (tl rfl)
theorem impl_WriteSec.sp {d : Nat} (hd : 4 ≤ d) {x : Dk} (sm : dkSm x) (n : Int) {b : List Int} (hb : b.length ≤ 1048576) : impl_WriteSec.f d (x.1, x.2.1, x.2.2.1, x.2.2.2.1, x.2.2.2.2, n, b) = some (writeAll x n b) := by
  obtain ⟨d, rfl, _⟩ := dep hd
  rw [impl_WriteSec.t_eq]
  dsimp only [impl_WriteSec.m]
  have hl := sm.1.1
  rw [wrap_id (x := (x.1.length : Int) - 1) (by omega) (by omega)]
  unfold writeAll
  refine Tells.eq (tc (impl_copyDisk.sp (by omega) sm) (tc (impl_DiskOk.sp (by omega) sm.1.1 sm.2.1.1 sm.2.2.1) (tbif (fun c => tl ?_) fun c => ?_)))
  · simp only [Bool.not_eq_true'] at c; rw [if_neg (by rw [c]; simp)]; rfl
  simp only [Bool.not_eq_false'] at c
  refine tc (impl_in.sp (by omega) _ _ _) (tbif (fun c2 => tl ?_) fun c2 => ?_)
  · simp only [Bool.not_eq_true'] at c2; rw [if_neg (by rw [c2]; simp)]; rfl
  simp only [Bool.not_eq_false'] at c2
  refine tif (fun c3 => tl ?_) fun c3 => tif (fun c4 => tl ?_) fun c4 => ?_
  · rw [if_neg fun h => h.2.2.1 c3]; rfl
  · rw [if_neg fun h => h.2.2.2 c4]; rfl
  rw [if_pos ⟨c, c2, c3, c4⟩]
  obtain ⟨_, hw, hf, hp1, hp2⟩ := diskOk_good sm c
  unfold writeM
  refine tbif (fun c1 => tl (by rw [if_pos c1]; rfl)) fun c1 => ?_
  rw [if_neg (by rw [c1]; simp)]
  refine tif (fun c5 => tl (by rw [if_pos c5]; rfl)) fun c5 => ?_
  rw [if_neg c5, if_neg c4]
  refine tc (impl_Disk_fault.sp (by omega) sm.fit) (tc (impl_copyBytes.sp (by omega) (by omega)) ?_)
  dsimp only
  rw [wrap_id (by omega) (by omega)]
  refine tp (by simp; omega) (tbif (fun c3 => ?_) fun c3 => ?_)
  · rw [if_pos c3]
    exact tc (impl_Disk_lose.sp (x := wrote x n b) (by omega) (by unfold wrote; simp; omega) (wrote_in hw c2 hb) (hf _ (faultM_mem c3))) (tl rfl)
  · rw [if_neg (by rw [c3]; simp)]
    exact tl rfl
theorem wrote_b {x : Dk} (h : dkSm x) {n : Int} {b : List Int} (hb : b.length ≤ 1048577) : dkB (wrote x n b) :=
  ⟨h.b.1, ⟨by have := h.2.1.1; unfold wrote; simp only [List.length_append, List.length_singleton]; omega, fun y hy => by
    rcases List.mem_append.1 hy with h1 | h1
    · exact h.b.2.1.2 y h1
    · obtain rfl := List.mem_singleton.1 h1; exact hb⟩, h.b.2.2⟩
theorem writeAll_b {x : Dk} (h : dkSm x) {n : Int} {b : List Int} (hb : b.length ≤ 1048576) : dkB (dkOf (writeAll x n b)) := by
  have hw : dkB (wrote x n b) := wrote_b h (by omega)
  unfold writeAll
  split
  · unfold writeM
    split
    · exact h.b
    · split
      · exact h.b
      · split
        · exact h.b
        · split
          · exact loseM_b hw
          · exact hw
  · exact h.b
theorem and_le_nat (x : Int) (n : Nat) (hn : n < 2 ^ 62) : 0 ≤ Go.bits .and .i64 x (n : Int) ∧ Go.bits .and .i64 x (n : Int) ≤ n := by
  have e : (BitVec.ofInt IntKind.i64.bits ((n : Nat) : Int)).toNat = n := by
    rw [BitVec.ofInt_natCast, BitVec.toNat_ofNat]
    exact Nat.mod_eq_of_lt (Nat.lt_of_lt_of_le hn (Nat.pow_le_pow_right (by decide) (by decide)))
  have h : (BitVec.ofInt IntKind.i64.bits x &&& BitVec.ofInt IntKind.i64.bits ((n : Nat) : Int)).toNat ≤ n := by
    rw [BitVec.toNat_and, e]
    exact Nat.and_le_right
  have g : Go.bits .and .i64 x (n : Int) = IntKind.i64.wrap ((BitVec.ofInt IntKind.i64.bits x &&& BitVec.ofInt IntKind.i64.bits ((n : Nat) : Int)).toNat : Int) := rfl
  rw [g, IntKind.wrap_i64]
  omega
theorem low_byte (x : Int) : 0 ≤ IntKind.wrap IntKind.i64 ((BitVec.ofInt (IntKind.bits IntKind.i64) x &&& BitVec.ofInt (IntKind.bits IntKind.i64) (255 : Int)).toNat : Int) ∧ IntKind.wrap IntKind.i64 ((BitVec.ofInt (IntKind.bits IntKind.i64) x &&& BitVec.ofInt (IntKind.bits IntKind.i64) (255 : Int)).toNat : Int) ≤ 255 := and_le_nat x 255 (by decide)
/-- a cursor over bytes -/
def cur (b : List Int) (p : Int) : Prop := b.length ≤ 1048576 ∧ 0 ≤ p ∧ p ≤ b.length
theorem spec_l1New.sp {d : Nat} (hd : 1 ≤ d) {b : List Int} (hl : b.length ≤ 1048576) : Tells (spec_l1New.f d b) fun r => r.1 = b ∧ cur b r.2.1 := by
  obtain ⟨d, rfl, _⟩ := dep hd
  rw [spec_l1New.t_eq]
  dsimp only [spec_l1New.m]
  refine loop0 (σ := Int) (spec_l1New.S0 d) (min b.length 4000) (fun x i => (b, x, i)) (fun _ _ => True) (fun _ _ r => r.1 = b ∧ cur b r.2.1) _ (by omega) trivial ?_ ?_
  · intro L x _
    have hc : cur b 0 := ⟨hl, by omega, by omega⟩
    dsimp only [spec_l1New.S0, spec_l1New.s0]
    exact tif (fun _ => tif (fun _ => ti (by omega) (by omega)) fun _ => tl ⟨rfl, hc⟩) fun _ => tl ⟨rfl, hc⟩
  · intro L x i _ hi ih
    dsimp only [spec_l1New.S0, spec_l1New.s0]
    refine tp (by omega) (tp (by omega) (ti (by omega) ?_))
    rw [wrap_succ (by omega)]
    exact ih _ trivial
theorem spec_l1Byte.sp {d : Nat} (hd : 1 ≤ d) {b : List Int} {p x : Int} (hc : cur b p) : Tells (spec_l1Byte.f d (b, p, x)) fun r => 0 ≤ r.1 ∧ r.1 ≤ 255 ∧ cur b r.2.1 := by
  obtain ⟨d, rfl, _⟩ := dep hd
  rw [spec_l1Byte.t_eq]
  dsimp only [spec_l1Byte.m]
  obtain ⟨h1, h2, h3⟩ := hc
  refine tp (by decide) (tp (by decide) (tif (fun c => tt (by rw [decide_eq_true h2, decide_eq_true c]; rfl) (tl ?_)) fun c => tl ?_))
  · refine ⟨(low_byte _).1, (low_byte _).2, h1, ?_⟩
    show 0 ≤ IntKind.wrap IntKind.i64 (p + 1) ∧ IntKind.wrap IntKind.i64 (p + 1) ≤ (b.length : Int)
    rw [wrap_id (x := p + 1) (by omega) (by omega)]
    omega
  · exact ⟨(low_byte _).1, (low_byte _).2, h1, h2, h3⟩
theorem spec_l1Below.sp {d : Nat} (hd : 2 ≤ d) {b : List Int} {p x n : Int} (hc : cur b p) : Tells (spec_l1Below.f d (b, p, x, n)) fun r => 0 ≤ r.1 ∧ (0 < n → r.1 < n) ∧ cur b r.2.1 := by
  obtain ⟨d, rfl, _⟩ := dep hd
  rw [spec_l1Below.t_eq]
  dsimp only [spec_l1Below.m]
  refine tif (fun c => tl ⟨by omega, fun h => by omega, hc⟩) fun c => tif (fun c2 => ?_) fun c2 => ?_
  · refine tb (spec_l1Byte.sp (by omega) hc) fun r hr => tp (by omega) (tl ?_)
    rw [Int.tmod_eq_emod_of_nonneg hr.1]
    exact ⟨Int.emod_nonneg _ (by omega), fun _ => Int.emod_lt_of_pos _ (by omega), hr.2.2⟩
  · refine tb (spec_l1Byte.sp (by omega) hc) fun r2 h2 => tb (spec_l1Byte.sp (by omega) h2.2.2) fun r3 h3 => tb (spec_l1Byte.sp (by omega) h3.2.2) fun r4 h4 => tp (by omega) (tl ?_)
    have e : IntKind.wrap IntKind.i64 ((IntKind.wrap IntKind.i64 ((IntKind.wrap IntKind.i64 (r2.1 * (65536 : Int))) + (IntKind.wrap IntKind.i64 (r3.1 * (256 : Int))))) + r4.1) = r2.1 * 65536 + r3.1 * 256 + r4.1 := by
      rw [wrap_id (x := r2.1 * 65536) (by omega) (by omega), wrap_id (x := r3.1 * 256) (by omega) (by omega), wrap_id (x := r2.1 * 65536 + r3.1 * 256) (by omega) (by omega), wrap_id (by omega) (by omega)]
    rw [e, Int.tmod_eq_emod_of_nonneg (by omega)]
    exact ⟨Int.emod_nonneg _ (by omega), fun _ => Int.emod_lt_of_pos _ (by omega), h4.2.2⟩
theorem spec_l1Int.sp {d : Nat} (hd : 3 ≤ d) {b : List Int} {p x : Int} {l : List Int} (hc : cur b p) (h0 : 0 < l.length) : Tells (spec_l1Int.f d (b, p, x, l)) fun r => r.1 ∈ l ∧ cur b r.2.1 := by
  obtain ⟨d, rfl, _⟩ := dep hd
  rw [spec_l1Int.t_eq]
  dsimp only [spec_l1Int.m]
  refine tb (spec_l1Below.sp (by omega) hc) fun r hr => ?_
  have hlt := hr.2.1 (by omega)
  have hi : r.1.toNat < l.length := by omega
  have e : r.1 = ((r.1.toNat : Nat) : Int) := by omega
  rw [e]
  refine ti hi (tl ?_)
  rw [getD_in hi]
  exact ⟨List.getElem_mem hi, hr.2.2⟩
theorem spec_l1Once.sp {d : Nat} (hd : 3 ≤ d) {b : List Int} {p x n : Int} (hc : cur b p) : Tells (spec_l1Once.f d (b, p, x, n)) fun r => cur b r.2.1 := by
  obtain ⟨d, rfl, _⟩ := dep hd
  rw [spec_l1Once.t_eq]
  dsimp only [spec_l1Once.m]
  exact tb (spec_l1Below.sp (by omega) hc) fun r hr => tl hr.2.2
theorem u8_bd (x : Int) : 0 ≤ IntKind.wrap IntKind.u8 x ∧ IntKind.wrap IntKind.u8 x ≤ 255 := by rw [IntKind.wrap_u8]; omega
theorem spec_l1Bytes.sp {d : Nat} (hd : 2 ≤ d) {b : List Int} {p x n : Int} (hc : cur b p) (h0 : 0 ≤ n) (h1 : n ≤ 1000000) : Tells (spec_l1Bytes.f d (b, p, x, n)) fun r => r.1.length = n.toNat ∧ (∀ y ∈ r.1, 0 ≤ y ∧ y ≤ 255) ∧ cur b r.2.1 := by
  obtain ⟨d, rfl, _⟩ := dep hd
  rw [spec_l1Bytes.t_eq]
  dsimp only [spec_l1Bytes.m]
  refine loop0 (σ := Int × Int × List Int) (spec_l1Bytes.S0 d) n.toNat (fun st i => (n, i, b, st.1, st.2.1, st.2.2)) (fun st i => cur b st.1 ∧ st.2.2.length = i ∧ ∀ y ∈ st.2.2, 0 ≤ y ∧ y ≤ 255) (fun _ _ r => r.1.length = n.toNat ∧ (∀ y ∈ r.1, 0 ≤ y ∧ y ≤ 255) ∧ cur b r.2.1) (p, x, []) (by omega) ⟨hc, rfl, fun y hy => by cases hy⟩ ?_ ?_
  · rintro L st ⟨h1, h2, h3⟩
    dsimp only [spec_l1Bytes.S0, spec_l1Bytes.s0]
    exact tn (by omega) (tl ⟨h2, h3, h1⟩)
  · rintro L st i ⟨h1, h2, h3⟩ hi ih
    dsimp only [spec_l1Bytes.S0, spec_l1Bytes.s0]
    refine tp (by omega) (tb (spec_l1Byte.sp (by omega) h1) fun r hr => tp ?_ ?_)
    · simp only [List.length_cons, List.length_nil]; omega
    · rw [wrap_succ (by omega)]
      refine ih (r.2.1, r.2.2, st.2.2 ++ [IntKind.wrap IntKind.u8 r.1]) ⟨hr.2.2, by simp [h2], fun y hy => ?_⟩
      rcases List.mem_append.1 hy with h | h
      · exact h3 y h
      · obtain rfl := List.mem_singleton.1 h
        exact u8_bd _
theorem spec_l1Some.sp {d : Nat} (hd : 4 ≤ d) {b : List Int} {p x : Int} (hc : cur b p) : Tells (spec_l1Some.f d (b, p, x)) fun r => r.1.length ≤ 9 ∧ (∀ y ∈ r.1, 0 ≤ y ∧ y ≤ 255) ∧ cur b r.2.1 := by
  obtain ⟨d, rfl, _⟩ := dep hd
  rw [spec_l1Some.t_eq]
  dsimp only [spec_l1Some.m]
  refine tb (spec_l1Int.sp (by omega) hc (by simp)) fun r hr => ?_
  have h9 : 0 ≤ r.1 ∧ r.1 ≤ 9 := by
    have := hr.1
    simp only [List.mem_cons, List.not_mem_nil, or_false] at this
    omega
  refine tb (spec_l1Bytes.sp (by omega) hr.2 h9.1 (by omega)) fun r2 h2 => tl ⟨?_, h2.2⟩
  have := h2.1
  simp only; omega
theorem laws_big.sp {d : Nat} (hd : 1 ≤ d) (b : List Int) : laws_big.f d b = some (decide ((b.length : Int) > 1048576)) := by
  obtain ⟨d, rfl, _⟩ := dep hd
  rw [laws_big.t_eq]
  rfl
theorem laws_sameBytes.self {d : Nat} (hd : 1 ≤ d) {l : List Int} (hl : l.length ≤ 140737488351232) : laws_sameBytes.f d (l, l) = some true := by
  obtain ⟨d, rfl, _⟩ := dep hd
  rw [laws_sameBytes.t_eq]
  refine Tells.eq ?_
  dsimp only [laws_sameBytes.m]
  refine tf (by simp) ?_
  refine loopE (laws_sameBytes.S0 d) l.length (fun i => (l, l, i)) (fun _ r => r = true) (by omega) (fun L => ?_) fun L i hi ih => ?_
  · dsimp only [laws_sameBytes.S0, laws_sameBytes.s0]
    exact tn (by omega) (tl rfl)
  · dsimp only [laws_sameBytes.S0, laws_sameBytes.s0]
    refine tp (by omega) (ti hi (ti hi (tf (by simp) ?_)))
    rwa [wrap_succ (by omega)]
theorem faultsM_of : ∀ {l : List (Int × Int × Int)} {o : Option (Int × Int × Int)}, (∀ f ∈ l, fOk f = true) → l.Pairwise (fun (a b : Int × Int × Int) => a.1 < b.1) → (∀ y, o = some y → ∀ f ∈ l, y.1 < f.1) → faultsM o l = true
  | [], _, _, _, _ => rfl
  | x :: r, o, h1, h2, h3 => by
    have hr := faultsM_of (l := r) (o := some x) (fun f hf => h1 f (by simp [hf])) (List.pairwise_cons.1 h2).2 (fun y hy f hf => by
      obtain rfl := Option.some.inj hy
      exact (List.pairwise_cons.1 h2).1 f hf)
    simp only [faultsM, h1 x (by simp), Bool.true_and]
    cases o with
    | none => exact hr
    | some y =>
      have := h3 y rfl x (by simp)
      simp only [hr, Bool.and_true, Bool.not_eq_true', decide_eq_false_iff_not]
      omega
def drawnF (l : List (Int × Int × Int)) : Prop := l.length ≤ 4 ∧ faultsM none l = true
theorem spec_l12FaultList.sp {d : Nat} (hd : 4 ≤ d) {b : List Int} {p x : Int} (hc : cur b p) : Tells (spec_l12FaultList.f d (b, p, x)) fun r => drawnF r.1 ∧ cur b r.2.1 := by
  obtain ⟨d, rfl, _⟩ := dep hd
  rw [spec_l12FaultList.t_eq]
  dsimp only [spec_l12FaultList.m]
  refine tb (spec_l1Below.sp (by omega) hc) fun r1 h1 => ?_
  have h4 := h1.2.1 (by omega)
  have ez : r1.1 = ((r1.1.toNat : Nat) : Int) - (0 : Int) := by omega
  have hstart : Tells (iter (spec_l12FaultList.S0 d) rnds ((0 : Int), ((r1.1.toNat : Nat) : Int) - (0 : Int), b, r1.2.1, r1.2.2, ([] : List (Int × Int × Int)))) fun r => drawnF r.1 ∧ cur b r.2.1 := by
    refine loop0 (σ := Int × Int × Int × List (Int × Int × Int)) (spec_l12FaultList.S0 d) r1.1.toNat (fun st i => (st.1, ((r1.1.toNat : Nat) : Int) - i, b, st.2.1, st.2.2.1, st.2.2.2))
      (fun st i => cur b st.2.1 ∧ 0 ≤ st.1 ∧ st.1 ≤ 12 * i ∧ st.2.2.2.length = i ∧ (∀ f ∈ st.2.2.2, fOk f = true) ∧ st.2.2.2.Pairwise (fun (a b : Int × Int × Int) => a.1 < b.1) ∧ ∀ f ∈ st.2.2.2, f.1 < st.1) (fun _ _ r => drawnF r.1 ∧ cur b r.2.1) (0, r1.2.1, r1.2.2, []) (by omega)
      ⟨h1.2.2, by omega, by omega, rfl, fun f hf => (by cases hf), List.Pairwise.nil, fun f hf => by cases hf⟩ ?_ ?_
    · rintro L st ⟨a1, a2, a3, a4, a5, a6, a7⟩
      dsimp only [spec_l12FaultList.S0, spec_l12FaultList.s0]
      have a8 : st.2.2.2.length ≤ 4 := by omega
      exact tn (by omega) (tl ⟨⟨a8, faultsM_of a5 a6 (fun y hy => by cases hy)⟩, a1⟩)
    · rintro L st i ⟨a1, a2, a3, a4, a5, a6, a7⟩ hi ih
      dsimp only [spec_l12FaultList.S0, spec_l12FaultList.s0]
      refine tp (by omega) (tb (spec_l1Below.sp (by omega) a1) fun r2 h2 => tb (spec_l1Below.sp (by omega) h2.2.2) fun r3 h3 => tb (spec_l1Int.sp (by omega) h3.2.2 (by simp)) fun r4 h4 => tb (spec_l1Int.sp (by omega) h4.2 (by simp)) fun r5 h5 => tp (by simp; omega) ?_)
      have b2 := h2.2.1 (by omega)
      have b3 := h3.2.1 (by omega)
      have m4 := h4.1
      have m5 := h5.1
      simp only [List.mem_cons, List.not_mem_nil, or_false] at m4 m5
      rw [wrap_id (x := st.1 + r2.1) (by omega) (by omega), wrap_id (x := st.1 + r2.1 + 1) (by omega) (by omega), wrap_id (x := ((r1.1.toNat : Nat) : Int) - (i : Int) - 1) (by omega) (by omega), show ((r1.1.toNat : Nat) : Int) - (i : Int) - 1 = ((r1.1.toNat : Nat) : Int) - ((i + 1 : Nat) : Int) by omega]
      refine ih (st.1 + r2.1 + 1, r5.2.1, r5.2.2, st.2.2.2 ++ [(st.1 + r2.1, r4.1, r5.1)]) ⟨h5.2, by simp only; omega, by simp only; omega, by simp [a4], fun f hf => ?_, ?_, fun f hf => ?_⟩
      · rcases List.mem_append.1 hf with h | h
        · exact a5 f h
        · obtain rfl := List.mem_singleton.1 h
          unfold fOk
          simp only [Bool.and_eq_true]
          exact ⟨inB_iff.2 ⟨by omega, by omega⟩, inB_iff.2 ⟨by omega, by omega⟩, inB_iff.2 ⟨by omega, by omega⟩⟩
      · rw [List.pairwise_append]
        refine ⟨a6, List.pairwise_singleton _ _, fun f hf g hg => ?_⟩
        obtain rfl := List.mem_singleton.1 hg
        have := a7 f hf
        simp only; omega
      · rcases List.mem_append.1 hf with h | h
        · have := a7 f h
          simp only; omega
        · obtain rfl := List.mem_singleton.1 h
          simp only; omega
  rw [← ez] at hstart
  exact hstart
/-- a disk that was drawn -/
structure dkI (x : Dk) : Prop where
  n : 4 ≤ x.1.length ∧ x.1.length ≤ 7
  s : ∀ y ∈ x.1, y.length ≤ 9 ∧ ∀ z ∈ y, 0 ≤ z ∧ z ≤ 255
  k : x.2.1.length ≤ 60
  w : ∀ w ∈ x.2.1, 0 ≤ w.1 ∧ w.1 < x.1.length ∧ w.2.length ≤ 9 ∧ ∀ z ∈ w.2, 0 ≤ z ∧ z ≤ 255
  f : drawnF x.2.2.2.1
theorem drawnF.cut {l : List (Int × Int × Int)} (h : faultsM none l = true) : ∀ f ∈ l, 0 ≤ f.2.2 := by
  have key : ∀ (l : List (Int × Int × Int)) (o : Option (Int × Int × Int)), faultsM o l = true → ∀ f ∈ l, 0 ≤ f.2.2 := by
    intro l
    induction l with
    | nil => intro _ _ f hf; cases hf
    | cons a r ih =>
      intro o ho f hf
      simp only [faultsM, Bool.and_eq_true] at ho
      obtain ⟨ha, hr⟩ := ho
      rcases List.mem_cons.1 hf with rfl | hf
      · unfold fOk at ha
        simp only [Bool.and_eq_true] at ha
        exact (inB_iff.1 ha.2.2).1
      · cases o with
        | none => exact ih _ hr f hf
        | some y =>
          simp only [Bool.and_eq_true] at hr
          exact ih _ hr.2 f hf
  exact key l none h
theorem small_of {x : Dk} {a b c k : Nat} (h1 : x.1.length ≤ a) (h2 : ∀ y ∈ x.1, y.length ≤ k) (h3 : x.2.1.length ≤ b) (h4 : ∀ w ∈ x.2.1, w.2.length ≤ k) (h5 : x.2.2.2.1.length ≤ c) (ha : a ≤ 1000) (hb : b ≤ 1000) (hc : c ≤ 1000) (hk : k ≤ 1000) : dkSm x := by
  refine ⟨⟨by omega, fun y hy => by have := h2 y hy; omega⟩, ⟨by omega, fun y hy => by have := h4 y hy; omega⟩, by omega, ?_⟩
  unfold dkW
  have g1 := wSum_le (w := List.length) h2
  have g2 := wSum_le (w := ww) (k := k + 1) (l := x.2.1) fun y hy => by have := h4 y hy; unfold ww; omega
  have g3 := sum_three x.2.2.2.1
  have m1 : x.1.length * k ≤ 1000 * 1000 := Nat.mul_le_mul (by omega) hk
  have m2 : x.2.1.length * (k + 1) ≤ 1000 * 1001 := Nat.mul_le_mul (by omega) (by omega)
  omega
theorem dkI.sm {x : Dk} (h : dkI x) : dkSm x := small_of (a := 7) (b := 60) (c := 4) (k := 9) h.n.2 (fun y hy => (h.s y hy).1) h.k (fun w hw => (h.w w hw).2.2.1) h.f.1 (by omega) (by omega) (by omega) (by omega)
theorem dkI.good {x : Dk} (h : dkI x) (hp : -1000000000 ≤ x.2.2.1 ∧ x.2.2.1 ≤ 1000000000) : dkGood x :=
  ⟨h.sm, fun w hw => ⟨(h.w w hw).1, (h.w w hw).2.1, by have := (h.w w hw).2.2.1; omega⟩, drawnF.cut h.f.2, hp.2, hp.1⟩
theorem loseM_I {x : Dk} (h : dkI x) {m c : Int} : dkI (loseM x m c) where
  n := by unfold loseM; rw [applyW_len]; exact h.n
  s := applyW_all (P := fun y => y.length ≤ 9 ∧ ∀ z ∈ y, 0 ≤ z ∧ z ≤ 255) h.s (by
    intro w hw
    unfold cutLast at hw
    split at hw
    · cases hw
    · rename_i v hv
      have hm := keptW_mem (List.mem_of_getLast? hv)
      rcases List.mem_append.1 hw with h1 | h1
      · have := h.w w (keptW_mem (List.dropLast_subset _ h1))
        exact this.2.2
      · obtain rfl := List.mem_singleton.1 h1
        have := h.w v hm
        refine ⟨?_, fun z hz => this.2.2.2 z (List.mem_of_mem_take hz)⟩
        simp only [cutW, List.length_take]
        have := this.2.2.1
        omega)
  k := Nat.zero_le _
  w := fun w hw => by cases hw
  f := h.f
theorem pulsed_I {x : Dk} (h : dkI x) : dkI (pulsed x) := ⟨h.n, h.s, h.k, h.w, h.f⟩
theorem flushM_I {x : Dk} (h : dkI x) : dkI (flushM x).2 := by
  unfold flushM
  split
  · exact h
  · split
    · exact h
    · split
      · exact loseM_I (pulsed_I h)
      · exact ⟨by rw [applyW_len]; exact h.n, applyW_all (P := fun y => y.length ≤ 9 ∧ ∀ z ∈ y, 0 ≤ z ∧ z ≤ 255) h.s fun w hw => (h.w w hw).2.2, Nat.zero_le _, fun w hw => (by cases hw), h.f⟩
theorem flushM_p {x : Dk} {k : Int} (h : 0 ≤ x.2.2.1 ∧ x.2.2.1 ≤ k) : 0 ≤ (flushM x).2.2.2.1 ∧ (flushM x).2.2.2.1 ≤ k + 1 := by
  unfold flushM
  split
  · simp only; omega
  · split
    · simp only; omega
    · split
      · simp only [loseM, pulsed]; omega
      · simp only; omega
theorem wrote_I {x : Dk} (h : dkI x) {n : Int} {b : List Int} (hk : ¬ (x.2.1.length : Int) ≥ 60) (hn : 0 ≤ n ∧ n < x.1.length) (hb : b.length ≤ 9 ∧ ∀ z ∈ b, 0 ≤ z ∧ z ≤ 255) : dkI (wrote x n b) where
  n := h.n
  s := h.s
  k := by unfold wrote; simp only [List.length_append, List.length_singleton]; omega
  w := fun w hw => by
    rcases List.mem_append.1 hw with h1 | h1
    · exact h.w w h1
    · obtain rfl := List.mem_singleton.1 h1
      exact ⟨hn.1, hn.2, hb⟩
  f := h.f
theorem writeM_I {x : Dk} (h : dkI x) {n : Int} {b : List Int} (hn : 0 ≤ n ∧ n < x.1.length) (hb : b.length ≤ 9 ∧ ∀ z ∈ b, 0 ≤ z ∧ z ≤ 255) : dkI (writeM x n b).2 := by
  unfold writeM
  split
  · exact h
  · split
    · exact h
    · split
      · exact h
      · rename_i hk
        split
        · exact loseM_I (wrote_I h hk hn hb)
        · exact wrote_I h hk hn hb
theorem writeM_p {x : Dk} {n k : Int} {b : List Int} (h : 0 ≤ x.2.2.1 ∧ x.2.2.1 ≤ k) : 0 ≤ (writeM x n b).2.2.2.1 ∧ (writeM x n b).2.2.2.1 ≤ k + 1 := by
  unfold writeM
  split
  · simp only; omega
  · split
    · simp only; omega
    · split
      · simp only; omega
      · split
        · simp only [loseM, wrote]; omega
        · simp only [wrote]; omega
theorem newDk_I {n : Int} {fs : List (Int × Int × Int)} (hn : 4 ≤ n ∧ n ≤ 7) (hf : drawnF fs) : dkI (newDk n fs) ∧ (newDk n fs).2.2.1 = 0 := by
  unfold newDk
  have h1 : faultsOkM fs = true := by
    unfold faultsOkM
    rw [hf.2, decide_eq_true (by have := hf.1; omega)]; rfl
  rw [if_pos ⟨inB_iff.2 ⟨by omega, by omega⟩, h1⟩]
  exact ⟨⟨by simp; omega, fun y hy => by rw [(List.mem_replicate.1 hy).2]; simp, by simp, fun w hw => (by cases hw), hf⟩, rfl⟩
def curOf (r : (List (List Int)) × (List (Int × (List Int))) × Int × (List (Int × Int × Int)) × Bool × Int × Int) : Dk := (r.1, r.2.1, r.2.2.1, r.2.2.2.1, r.2.2.2.2.1)
theorem spec_l12Draw.sp {d : Nat} (hd : 5 ≤ d) {b : List Int} {p x : Int} (hc : cur b p) : Tells (spec_l12Draw.f d (b, p, x)) fun r => dkI (curOf r) ∧ cur b r.2.2.2.2.2.1 := by
  obtain ⟨d, rfl, _⟩ := dep hd
  rw [spec_l12Draw.t_eq]
  dsimp only [spec_l12Draw.m]
  refine tb (spec_l1Below.sp (by omega) hc) fun r1 h1 => tb (spec_l12FaultList.sp (by omega) h1.2.2) fun r2 h2 => ?_
  have b1 := h1.2.1 (by omega)
  rw [wrap_id (x := 4 + r1.1) (by omega) (by omega)]
  obtain ⟨i0, p0⟩ := newDk_I (n := 4 + r1.1) (fs := r2.1) ⟨by omega, by omega⟩ h2.1
  refine tc (spec_DiskNew.sp (by omega) (by have := h2.1.1; omega)) (tb (spec_l1Below.sp (by omega) h2.2) fun r4 h4 => ?_)
  have b4 := h4.2.1 (by omega)
  revert i0 p0
  generalize newDk (4 + r1.1) r2.1 = D
  intro i0 p0
  have ez : r4.1 = ((r4.1.toNat : Nat) : Int) - (0 : Int) := by omega
  have hstart : Tells (iter (spec_l12Draw.S0 d) rnds (((r4.1.toNat : Nat) : Int) - (0 : Int), b, r4.2.1, r4.2.2, ([] : List (List Int)), ([] : List (Int × (List Int))), (0 : Int), ([] : List (Int × Int × Int)), false, D.1, D.2.1, D.2.2.1, D.2.2.2.1, D.2.2.2.2)) fun r => dkI (curOf r) ∧ cur b r.2.2.2.2.2.1 := by
    refine loop0 (σ := Int × Int × Dk) (spec_l12Draw.S0 d) r4.1.toNat (fun st i => (((r4.1.toNat : Nat) : Int) - i, b, st.1, st.2.1, ([] : List (List Int)), ([] : List (Int × (List Int))), (0 : Int), ([] : List (Int × Int × Int)), false, st.2.2.1, st.2.2.2.1, st.2.2.2.2.1, st.2.2.2.2.2.1, st.2.2.2.2.2.2))
      (fun st i => cur b st.1 ∧ dkI st.2.2 ∧ 0 ≤ st.2.2.2.2.1 ∧ st.2.2.2.2.1 ≤ i) (fun _ _ r => dkI (curOf r) ∧ cur b r.2.2.2.2.2.1) (r4.2.1, r4.2.2, D) (by omega) ⟨h4.2.2, i0, by simp only [p0]; omega, by simp only [p0]; omega⟩ ?_ ?_
    · rintro L st ⟨a1, a2, a3, a4⟩
      dsimp only [spec_l12Draw.S0, spec_l12Draw.s0]
      exact tn (by omega) (tl ⟨a2, a1⟩)
    · rintro L ⟨sp, sx, X⟩ i ⟨a1, a2, a3, a4⟩ hi ih
      simp only at a1 a2 a3 a4 ih ⊢
      dsimp only [spec_l12Draw.S0, spec_l12Draw.s0]
      rw [wrap_id (x := ((r4.1.toNat : Nat) : Int) - (i : Int) - 1) (by omega) (by omega), show ((r4.1.toNat : Nat) : Int) - (i : Int) - 1 = ((r4.1.toNat : Nat) : Int) - ((i + 1 : Nat) : Int) by omega]
      refine tp (by omega) (tb (spec_l1Below.sp (by omega) a1) fun r5 h5 => tbif (fun _ => ?_) fun _ => tbif (fun _ => ?_) fun _ => ?_)
      · refine tc (spec_l12Flush.sp (by omega) (a2.good ⟨by omega, by omega⟩)) ?_
        have hp := flushM_p (x := X) (k := (i : Int)) ⟨a3, a4⟩
        exact ih (r5.2.1, r5.2.2, (flushM X).2) ⟨h5.2.2, flushM_I a2, hp.1, by simp only; omega⟩
      · exact ih (r5.2.1, r5.2.2, (X.1, X.2.1, X.2.2.1, X.2.2.2.1, false)) ⟨h5.2.2, ⟨a2.n, a2.s, a2.k, a2.w, a2.f⟩, a3, by simp only; omega⟩
      · refine tb (spec_l1Below.sp (by omega) h5.2.2) fun r7 h7 => tb (spec_l1Some.sp (by omega) h7.2.2) fun r8 h8 => ?_
        have hn := a2.n
        have b7 := h7.2.1 (by omega)
        refine tc (spec_l12Write.sp (by omega) (a2.good ⟨by omega, by omega⟩) (inB_iff.2 ⟨h7.1, by omega⟩) (by have := h8.1; omega)) ?_
        have hp := writeM_p (x := X) (n := r7.1) (b := r8.1) (k := (i : Int)) ⟨a3, a4⟩
        exact ih (r8.2.1, r8.2.2, (writeM X r7.1 r8.1).2) ⟨h8.2.2, writeM_I a2 ⟨h7.1, b7⟩ ⟨h8.1, h8.2.1⟩, hp.1, by simp only; omega⟩
  rw [← ez] at hstart
  exact hstart
/-- a disk that was drawn, and bent -/
structure dkV (x : Dk) : Prop where
  n : x.1.length ≤ 7
  s : ∀ y ∈ x.1, y.length ≤ 300 ∧ ∀ z ∈ y, 0 ≤ z ∧ z ≤ 255
  k : x.2.1.length ≤ 61
  w : ∀ w ∈ x.2.1, w.2.length ≤ 300 ∧ ∀ z ∈ w.2, 0 ≤ z ∧ z ≤ 255
  f : x.2.2.2.1.length ≤ 5
theorem dkV.sm {x : Dk} (h : dkV x) : dkSm x := small_of (a := 7) (b := 61) (c := 5) (k := 300) h.n (fun y hy => (h.s y hy).1) h.k (fun w hw => (h.w w hw).1) h.f (by omega) (by omega) (by omega) (by omega)
theorem dkI.v {x : Dk} (h : dkI x) : dkV x := ⟨h.n.2, fun y hy => ⟨by have := (h.s y hy).1; omega, (h.s y hy).2⟩, by have := h.k; omega, fun w hw => ⟨by have := (h.w w hw).2.2.1; omega, (h.w w hw).2.2.2⟩, by have := h.f.1; omega⟩
theorem spec_l12Any.sp {d : Nat} (hd : 6 ≤ d) {b : List Int} {p x : Int} (hc : cur b p) : Tells (spec_l12Any.f d (b, p, x)) fun r => dkV (curOf r) ∧ cur b r.2.2.2.2.2.1 := by
  obtain ⟨d, rfl, _⟩ := dep hd
  rw [spec_l12Any.t_eq]
  dsimp only [spec_l12Any.m]
  refine tb (spec_l12Draw.sp (by omega) hc) fun r1 h1 => tb (spec_l1Below.sp (by omega) h1.2) fun r2 h2 => ?_
  obtain ⟨h1, -⟩ := h1
  have hv := h1.v
  have hn := h1.n
  have hk := h1.k
  have hf := h1.f.1
  refine tbif (fun _ => tb (spec_l1Int.sp (by omega) h2.2.2 (by simp)) fun r3 h3 => tl ⟨⟨hv.n, hv.s, hv.k, hv.w, hv.f⟩, h3.2⟩) fun _ => tbif (fun _ => ?_) fun _ => tbif (fun _ => ?_) fun _ => tbif (fun _ => ?_) fun _ => tbif (fun _ => ?_) fun _ => tbif (fun _ => ?_) fun _ => tl ⟨⟨hv.n, hv.s, hv.k, hv.w, hv.f⟩, h2.2.2⟩
  · refine tb (spec_l1Int.sp (by omega) h2.2.2 (by simp)) fun r4 h4 => tb (spec_l1Int.sp (by omega) h4.2 (by simp)) fun r5 h5 => tp ?_ (tl ⟨⟨hv.n, hv.s, hv.k, hv.w, ?_⟩, h5.2⟩)
    · have : r1.2.2.2.1.length ≤ 4 := hf
      simp only [List.length_cons, List.length_nil]; omega
    · have : r1.2.2.2.1.length ≤ 4 := hf
      show (r1.2.2.2.1 ++ [(r4.1, r5.1, 0)]).length ≤ 5
      simp only [List.length_append, List.length_cons, List.length_nil]; omega
  · refine tb (spec_l1Int.sp (by omega) h2.2.2 (by simp)) fun r6 h6 => tb (spec_l1Some.sp (by omega) h6.2) fun r7 h7 => tp ?_ (tl ⟨⟨hv.n, hv.s, ?_, ?_, hv.f⟩, h7.2.2⟩)
    · have : r1.2.1.length ≤ 60 := hk
      simp only [List.length_cons, List.length_nil]; omega
    · have : r1.2.1.length ≤ 60 := hk
      show (r1.2.1 ++ [(r6.1, r7.1)]).length ≤ 61
      simp only [List.length_append, List.length_cons, List.length_nil]; omega
    · intro w hw
      rcases List.mem_append.1 hw with h | h
      · exact hv.w w h
      · obtain rfl := List.mem_singleton.1 h
        exact ⟨by have := h7.1; simp only; omega, h7.2.1⟩
  · refine tb (spec_l1Below.sp (by omega) h2.2.2) fun r8 h8 => ?_
    have b8 := h8.2.1 (by omega)
    have hpos : 0 < r1.1.length := by have : 4 ≤ r1.1.length := hn.1; omega
    rw [wrap_id (x := 256 + r8.1) (by omega) (by omega)]
    refine tt (by rw [decide_eq_true (by omega), decide_eq_true (by omega), decide_eq_true (by omega)]; rfl) (tt (by rw [decide_eq_true (by omega), decide_eq_true (by omega)]; rfl) (tl ⟨⟨?_, ?_, hv.k, hv.w, hv.f⟩, h8.2.2⟩))
    · show (List.set r1.1 _ _).length ≤ 7
      rw [List.length_set]; exact hv.n
    · intro y hy
      rcases List.mem_or_eq_of_mem_set hy with h | h
      · exact hv.s y h
      · rw [h]
        refine ⟨by simp only [List.length_replicate]; omega, fun z hz => ?_⟩
        rw [(List.mem_replicate.1 hz).2]; omega
  · have h4 : 4 ≤ r1.1.length := hn.1
    refine tt (by rw [decide_eq_true (by omega), decide_eq_true (by omega), decide_eq_true (by omega)]; rfl) (tl ⟨⟨?_, fun y hy => hv.s y (List.mem_of_mem_take hy), hv.k, hv.w, hv.f⟩, h2.2.2⟩)
    show (List.take _ r1.1).length ≤ 7
    rw [List.length_take]
    have := hv.n
    have : r1.1.length ≤ 7 := this
    omega
  · have hk' : r1.2.1.length ≤ 60 := hk
    obtain ⟨n, hnn⟩ : ∃ n, r1.2.1.length + n = 60 := ⟨60 - r1.2.1.length, by omega⟩
    refine loop0 (σ := Int × Int × List (Int × List Int)) (spec_l12Any.S1 d) n (fun st _ => (b, st.1, st.2.1, ([] : List (List Int)), ([] : List (Int × (List Int))), (0 : Int), ([] : List (Int × Int × Int)), false, r1.1, st.2.2, r1.2.2.1, r1.2.2.2.1, r1.2.2.2.2.1))
      (fun st i => cur b st.1 ∧ st.2.2.length + n = 60 + i ∧ ∀ w ∈ st.2.2, w.2.length ≤ 300 ∧ ∀ z ∈ w.2, 0 ≤ z ∧ z ≤ 255) (fun _ _ r => dkV (curOf r) ∧ cur b r.2.2.2.2.2.1) (r2.2.1, r2.2.2, r1.2.1) (by omega) ⟨h2.2.2, by simp only; omega, hv.w⟩ ?_ ?_
    · rintro L st ⟨a1, a2, a3⟩
      dsimp only [spec_l12Any.S1, spec_l12Any.s1]
      refine tb (spec_l1Below.sp (by omega) a1) fun r9 h9 => ?_
      have b9 := h9.2.1 (by omega)
      rw [wrap_id (x := 59 + r9.1) (by omega) (by omega)]
      exact tn (by omega) (tl ⟨⟨hv.n, hv.s, by show st.2.2.length ≤ 61; omega, a3, hv.f⟩, h9.2.2⟩)
    · rintro L st i ⟨a1, a2, a3⟩ hi ih
      dsimp only [spec_l12Any.S1, spec_l12Any.s1]
      refine tb (spec_l1Below.sp (by omega) a1) fun r9 h9 => ?_
      have b9 := h9.2.1 (by omega)
      rw [wrap_id (x := 59 + r9.1) (by omega) (by omega)]
      refine tif (fun _ => tp (by simp; omega) ?_) fun _ => tl ⟨⟨hv.n, hv.s, by show st.2.2.length ≤ 61; omega, a3, hv.f⟩, h9.2.2⟩
      refine ih (r9.2.1, r9.2.2, st.2.2 ++ [(1, [1])]) ⟨h9.2.2, by simp only [List.length_append, List.length_cons, List.length_nil]; omega, fun w hw => ?_⟩
      rcases List.mem_append.1 hw with h | h
      · exact a3 w h
      · obtain rfl := List.mem_singleton.1 h
        exact ⟨by simp, fun z hz => by obtain rfl := List.mem_singleton.1 hz; omega⟩
theorem spec_l12N.sp {d : Nat} (hd : 4 ≤ d) {b : List Int} {p x : Int} (hc : cur b p) : Tells (spec_l12N.f d (b, p, x)) fun r => -1 ≤ r.1 ∧ r.1 ≤ 48 ∧ cur b r.2.1 := by
  obtain ⟨d, rfl, _⟩ := dep hd
  rw [spec_l12N.t_eq]
  dsimp only [spec_l12N.m]
  refine tb (spec_l1Int.sp (by omega) hc (by simp)) fun r1 h1 => tl ?_
  have m := h1.1
  simp only [List.mem_cons, List.not_mem_nil, or_false] at m
  exact ⟨by simp only; omega, by simp only; omega, h1.2⟩
theorem laws_sameDisk.self {d : Nat} (hd : 2 ≤ d) {x : Dk} (h : dkFit x) : laws_sameDisk.f d (x.1, x.2.1, x.2.2.1, x.2.2.2.1, x.2.2.2.2, x.1, x.2.1, x.2.2.1, x.2.2.2.1, x.2.2.2.2) = some true := by
  obtain ⟨d, rfl, _⟩ := dep hd
  rw [laws_sameDisk.t_eq]
  dsimp only [laws_sameDisk.m]
  have l1 := h.1.1
  have l2 := h.2.1.1
  refine Tells.eq (tf (by simp) (tf (by simp) (tf (by simp) (tf (by simp) ?_))))
  refine loopE (laws_sameDisk.S0 d) x.1.length (fun i => (i, x.1, x.2.1, x.2.2.1, x.2.2.2.1, x.2.2.2.2, x.1, x.2.1, x.2.2.1, x.2.2.2.1, x.2.2.2.2)) (fun _ r => r = true) (by omega) (fun L => ?_) fun L i hi ih => ?_
  · dsimp only [laws_sameDisk.S0, laws_sameDisk.s0]
    refine tn (by omega) ?_
    refine loopE (laws_sameDisk.S2 d) x.2.1.length (fun i => (i, x.1, x.2.1, x.2.2.1, x.2.2.2.1, x.2.2.2.2, x.1, x.2.1, x.2.2.1, x.2.2.2.1, x.2.2.2.2)) (fun _ r => r = true) (by omega) (fun L => ?_) fun L i hi ih => ?_
    · dsimp only [laws_sameDisk.S2, laws_sameDisk.s2]
      exact tn (by omega) (tl rfl)
    · dsimp only [laws_sameDisk.S2, laws_sameDisk.s2]
      refine tp (by omega) (ti hi (ti hi (tf (by simp) (ti hi (ti hi ?_)))))
      rw [getD_in hi, wrap_succ (by omega)]
      exact tc (laws_sameBytes.self (by omega) (h.2.1.2 _ (List.getElem_mem hi))) (tf rfl ih)
  · dsimp only [laws_sameDisk.S0, laws_sameDisk.s0]
    refine tp (by omega) (ti hi (ti hi ?_))
    rw [getD_in hi, wrap_succ (by omega)]
    exact tc (laws_sameBytes.self (by omega) (h.1.2 _ (List.getElem_mem hi))) (tf rfl ih)
theorem spec_DrawWriteSec.sp {d : Nat} (hd : 7 ≤ d) {b : List Int} (hl : b.length ≤ 1048576) : Tells (spec_DrawWriteSec.f d b) fun r => dkV (r.1, r.2.1, r.2.2.1, r.2.2.2.1, r.2.2.2.2.1) ∧ r.2.2.2.2.2.2.length ≤ 300 ∧ ∀ y ∈ r.2.2.2.2.2.2, 0 ≤ y ∧ y ≤ 255 := by
  obtain ⟨d, rfl, _⟩ := dep hd
  rw [spec_DrawWriteSec.t_eq]
  dsimp only [spec_DrawWriteSec.m]
  refine tb (spec_l1New.sp (by omega) hl) fun r1 h1 => ?_
  rw [h1.1]
  refine tb (spec_l1Some.sp (by omega) h1.2) fun r2 h2 => tb (spec_l1Once.sp (by omega) h2.2.2) fun r3 h3 => tbif (fun _ => ?_) fun _ => ?_
  · refine tb (spec_l1Below.sp (by omega) h3) fun r4 h4 => ?_
    have b4 := h4.2.1 (by omega)
    rw [wrap_id (x := 256 + r4.1) (by omega) (by omega)]
    have hrep : (List.replicate (Int.toNat (256 + r4.1)) (0 : Int)).length ≤ 300 ∧ ∀ y ∈ List.replicate (Int.toNat (256 + r4.1)) (0 : Int), 0 ≤ y ∧ y ≤ 255 := ⟨by simp only [List.length_replicate]; omega, fun y hy => by rw [(List.mem_replicate.1 hy).2]; omega⟩
    refine tt (by rw [decide_eq_true (by omega), decide_eq_true (by omega), decide_eq_true (by omega)]; rfl) (tb (spec_l12Any.sp (by omega) h4.2.2) fun r5 h5 => tb (spec_l1Once.sp (by omega) h5.2) fun r6 h6 => tbif (fun _ => ?_) fun _ => ?_)
    · exact tb (spec_l1Below.sp (by omega) h6) fun r7 h7 => tb (spec_l1Below.sp (by omega) h7.2.2) fun r8 h8 => tb (spec_l12N.sp (by omega) h8.2.2) fun r9 h9 => tl ⟨⟨h5.1.n, h5.1.s, h5.1.k, h5.1.w, by simp⟩, hrep⟩
    · exact tb (spec_l12N.sp (by omega) h6) fun r9 h9 => tl ⟨h5.1, hrep⟩
  · have hsm : r2.1.length ≤ 300 ∧ ∀ y ∈ r2.1, 0 ≤ y ∧ y ≤ 255 := ⟨by have := h2.1; omega, h2.2.1⟩
    refine tb (spec_l12Any.sp (by omega) h3) fun r5 h5 => tb (spec_l1Once.sp (by omega) h5.2) fun r6 h6 => tbif (fun _ => ?_) fun _ => ?_
    · exact tb (spec_l1Below.sp (by omega) h6) fun r7 h7 => tb (spec_l1Below.sp (by omega) h7.2.2) fun r8 h8 => tb (spec_l12N.sp (by omega) h8.2.2) fun r9 h9 => tl ⟨⟨h5.1.n, h5.1.s, h5.1.k, h5.1.w, by simp⟩, hsm⟩
    · exact tb (spec_l12N.sp (by omega) h6) fun r9 h9 => tl ⟨h5.1, hsm⟩
theorem snocInd {α : Type} {P : List α → Prop} (h0 : P []) (h1 : ∀ l b, P l → P (l ++ [b])) (l : List α) : P l := by
  have h : ∀ l : List α, P l.reverse := by
    intro l
    induction l with
    | nil => exact h0
    | cons a r ih => rw [List.reverse_cons]; exact h1 _ _ ih
  have := h l.reverse
  rwa [List.reverse_reverse] at this
theorem applyW_last : ∀ {ws : List (Int × List Int)} {ss : List (List Int)} {i : Nat} (h : i < ss.length), (∀ w ∈ ws, 0 ≤ w.1) → (applyW ss ws)[i]'(by rw [applyW_len]; exact h) = lastW ws (i : Int) ss[i] := by
  intro ws
  refine snocInd (P := fun ws : List (Int × List Int) => ∀ {ss : List (List Int)} {i : Nat} (h : i < ss.length), (∀ w ∈ ws, 0 ≤ w.1) → (applyW ss ws)[i]'(by rw [applyW_len]; exact h) = lastW ws (i : Int) ss[i]) ?_ ?_ ws
  · intro ss i h _; rfl
  · intro ws w ih ss i h hw
    have hi : i < (applyW ss ws).length := by rw [applyW_len]; exact h
    have e : lastW (ws ++ [w]) (i : Int) ss[i] = if w.1 = (i : Int) then w.2 else lastW ws (i : Int) ss[i] := by
      have := lastW_snoc (ws := ws ++ [w]) (i := ws.length) (by simp) (n := (i : Int)) (z := ss[i])
      have e1 : (ws ++ [w]).take (ws.length + 1) = ws ++ [w] := List.take_of_length_le (by simp)
      have e2 : (ws ++ [w]).take ws.length = ws := by simp
      rw [e1, e2] at this
      simpa using this
    rw [e]
    have h0 := hw w (by simp)
    simp only [applyW_snoc, List.getElem_set]
    by_cases hc : w.1 = (i : Int)
    · rw [if_pos hc, if_pos (by omega)]
    · rw [if_neg hc, if_neg (by omega)]
      exact ih h fun v hv => hw v (by simp [hv])
theorem cutLast_mem {c : Int} {m : Int} {ws : List (Int × List Int)} {n : Nat} {w : Int × List Int} (h : w ∈ cutLast c (keptW m ws n)) : ∃ v ∈ ws, v.1 = w.1 ∧ w.2.length ≤ v.2.length ∧ v.2.take w.2.length = w.2 := by
  unfold cutLast at h
  split at h
  · cases h
  · rename_i v hv
    rcases List.mem_append.1 h with h1 | h1
    · exact ⟨w, keptW_mem (List.dropLast_subset _ h1), rfl, Nat.le_refl _, List.take_length⟩
    · obtain rfl := List.mem_singleton.1 h1
      refine ⟨v, keptW_mem (List.mem_of_getLast? hv), rfl, ?_, ?_⟩
      · simp only [cutW, List.length_take]; omega
      · simp only [cutW, List.length_take]
        by_cases hc : c.toNat ≤ v.2.length
        · rw [Nat.min_eq_left hc]
        · rw [Nat.min_eq_right (by omega), List.take_length, List.take_of_length_le (by omega)]
structure flushed (x : Dk) (code : Int) (F : Dk) : Prop where
  len : F.1.length = x.1.length
  cd : code = 0 ∨ code = 9
  sec : ∀ (i : Nat) (h : i < x.1.length), (F.1[i]'(by rw [len]; exact h) = x.1[i] ∧ code ≠ 0) ∨ (F.1[i]'(by rw [len]; exact h) = (readM x (i : Int)).1 ∧ code = 0) ∨
    (code = 9 ∧ ∃ (j : Nat) (hj : j < x.2.1.length), x.2.1[j].1 = (i : Int) ∧ (F.1[i]'(by rw [len]; exact h)).length ≤ x.2.1[j].2.length ∧ x.2.1[j].2.take (F.1[i]'(by rw [len]; exact h)).length = F.1[i]'(by rw [len]; exact h))
  ok : diskOkM F.1 F.2.1 F.2.2.1 F.2.2.2.1 F.2.2.2.2 = true
  why : code = 0 ∨ F.2.2.2.2 = true ∨ x.2.2.1 ≥ 100000
theorem disk_parts {x : Dk} (h : diskOkM x.1 x.2.1 x.2.2.1 x.2.2.2.1 x.2.2.2.2 = true) : (∀ y ∈ x.1, secOk y = true) ∧ (∀ w ∈ x.2.1, wrOk x.1.length w = true) ∧ inB x.1.length 4 48 = true ∧ (x.2.1.length : Int) ≤ 60 ∧ inB x.2.2.1 0 100000 = true ∧ faultsOkM x.2.2.2.1 = true := by
  unfold diskOkM at h
  simp only [Bool.and_eq_true, decide_eq_true_eq] at h
  obtain ⟨⟨⟨⟨⟨⟨h1, h2⟩, h3⟩, h4⟩, h5⟩, h6⟩, _⟩ := h
  exact ⟨List.all_eq_true.1 h1, List.all_eq_true.1 h2, h3, h4, h5, h6⟩
theorem disk_done {ss : List (List Int)} {p : Int} {fs : List (Int × Int × Int)} {on : Bool} (h1 : ∀ y ∈ ss, secOk y = true) (h3 : inB ss.length 4 48 = true) (h5 : inB p 0 100000 = true) (h6 : faultsOkM fs = true) : diskOkM ss [] p fs on = true := by
  unfold diskOkM
  rw [List.all_eq_true.2 h1, h3, h5, h6]
  cases on <;> rfl
theorem lastW_app {ws : List (Int × List Int)} {n k : Int} {b z : List Int} : lastW (ws ++ [(n, b)]) k z = if n = k then b else lastW ws k z := by
  have := lastW_snoc (ws := ws ++ [(n, b)]) (i := ws.length) (by simp) (n := k) (z := z)
  have e1 : (ws ++ [(n, b)]).take (ws.length + 1) = ws ++ [(n, b)] := List.take_of_length_le (by simp)
  have e2 : (ws ++ [(n, b)]).take ws.length = ws := by simp
  rw [e1, e2] at this
  simpa using this
theorem readM_at {x : Dk} {i : Nat} (h : i < x.1.length) : readM x (i : Int) = (lastW x.2.1 (i : Int) x.1[i], true) := by
  unfold readM
  rw [if_pos (inB_iff.2 ⟨by omega, by omega⟩), Int.toNat_natCast, List.getD_eq_getElem?_getD, List.getElem?_eq_getElem h]
  rfl
/-- what a write left -/
structure wroteF (x : Dk) (n : Int) (b : List Int) (r : Dc) : Prop where
  same : r.2.2.1 = x.2.2.1 → dkOf r = x ∧ r.2.2.2.2.2 ≠ 0
  lost : r.2.2.1 ≠ x.2.2.1 → r.2.2.2.2.2 ≠ 0 → r.2.2.2.2.2 = 9 ∧ r.2.2.2.2.1 = true ∧ r.2.1 = [] ∧ diskOkM r.1 r.2.1 r.2.2.1 r.2.2.2.1 r.2.2.2.2.1 = true
  put : r.2.2.1 ≠ x.2.2.1 → r.2.2.2.2.2 = 0 → dkOf r = wrote x n b ∧ inB n 0 ((x.1.length : Int) - 1) = true ∧ x.2.2.2.2 = false ∧ diskOkM x.1 (x.2.1 ++ [(n, b)]) (x.2.2.1 + 1) [] false = true
theorem write_facts {x : Dk} (sm : dkSm x) {n : Int} {b : List Int} (hb : b.length ≤ 1048576) : wroteF x n b (writeAll x n b) := by
  have none' : wroteF x n b (packC (1, x)) := ⟨fun _ => ⟨rfl, show (1 : Int) ≠ 0 by decide⟩, fun h => absurd rfl h, fun h => absurd rfl h⟩
  have nine : wroteF x n b (packC (9, x)) := ⟨fun _ => ⟨rfl, show (9 : Int) ≠ 0 by decide⟩, fun h => absurd rfl h, fun h => absurd rfl h⟩
  unfold writeAll
  by_cases hc : diskOkM x.1 x.2.1 x.2.2.1 x.2.2.2.1 x.2.2.2.2 = true ∧ inB n 0 ((x.1.length : Int) - 1) = true ∧ ¬ (b.length : Int) > 256 ∧ ¬ (x.2.1.length : Int) ≥ 60
  · rw [if_pos hc]
    obtain ⟨c1, c2, c3, c4⟩ := hc
    obtain ⟨h1, h2, h3, h4, h5, h6⟩ := disk_parts c1
    have hq := inB_iff.1 h5
    have hn := inB_iff.1 c2
    unfold writeM
    by_cases g1 : x.2.2.2.2 = true
    · rw [if_pos g1]; exact nine
    · rw [if_neg g1]
      by_cases g2 : x.2.2.1 ≥ 100000
      · rw [if_pos g2]; exact nine
      · rw [if_neg g2, if_neg c4]
        have wok : ∀ w ∈ x.2.1 ++ [(n, b)], wrOk x.1.length w = true := fun w hw => by
          rcases List.mem_append.1 hw with h | h
          · exact h2 w h
          · obtain rfl := List.mem_singleton.1 h
            have hb3 : (b.length : Int) ≤ 256 := by omega
            show (inB n 0 ((x.1.length : Int) - 1) && decide ((b.length : Int) ≤ 256)) = true
            rw [c2, decide_eq_true hb3]; rfl
        by_cases g3 : (faultM x.2.2.2.1 x.2.2.1).2.2.2 = true
        · rw [if_pos g3]
          generalize (faultM x.2.2.2.1 x.2.2.1).2.1 = m
          generalize (faultM x.2.2.2.1 x.2.2.1).2.2.1 = c
          have hne : (packC (9, loseM (wrote x n b) m c)).2.2.1 ≠ x.2.2.1 := by
            show x.2.2.1 + 1 ≠ x.2.2.1
            omega
          refine ⟨fun h => absurd h hne, fun _ _ => ⟨rfl, rfl, rfl, ?_⟩, fun _ h => by cases h⟩
          refine disk_done (applyW_all (P := fun y => secOk y = true) h1 fun w hw => ?_) (by show inB (((applyW x.1 (cutLast c (keptW m (wrote x n b).2.1 (wrote x n b).2.1.length))).length : Nat) : Int) 4 48 = true; rw [applyW_len]; exact h3) (inB_iff.2 ⟨by show 0 ≤ x.2.2.1 + 1; omega, by show x.2.2.1 + 1 ≤ 100000; omega⟩) h6
          obtain ⟨v, hv, _, hle, _⟩ := cutLast_mem hw
          have := wok v hv
          unfold wrOk at this
          simp only [Bool.and_eq_true, decide_eq_true_eq] at this
          unfold secOk
          rw [decide_eq_true_eq]
          omega
        · rw [if_neg g3]
          have hne : (packC (0, wrote x n b)).2.2.1 ≠ x.2.2.1 := by
            show x.2.2.1 + 1 ≠ x.2.2.1
            omega
          refine ⟨fun h => absurd h hne, fun _ h => absurd rfl h, fun _ _ => ⟨rfl, c2, by simpa using g1, ?_⟩⟩
          unfold diskOkM
          rw [List.all_eq_true.2 h1, List.all_eq_true.2 wok, h3, decide_eq_true (by simp only [List.length_append, List.length_singleton]; omega), inB_iff.2 ⟨by omega, by omega⟩]
          rfl
  · rw [if_neg hc]
    exact none'
theorem laws_FnDisks.pure {d : Nat} (hd : 8 ≤ d) {b : List Int} (h0 : okV (.row (.one (.int .u8))) b) : laws_FnDisks.f d b = some true := by
  obtain ⟨d, rfl, _⟩ := dep hd
  rw [laws_FnDisks.t_eq]
  dsimp only [laws_FnDisks.m]
  refine Tells.eq (tc (laws_big.sp (by omega) b) (tif (fun _ => tl rfl) fun h => ?_))
  have hl : b.length ≤ 1048576 := by omega
  refine tb (spec_DrawWriteSec.sp (by omega) hl) fun r2 h2 => ?_
  obtain ⟨x1, x2, x3, x4, x5, n, v⟩ := r2
  obtain ⟨hx, hv, _⟩ := h2
  simp only at hx hv ⊢
  generalize hxx : ((x1, x2, x3, x4, x5) : Dk) = x at hx
  have sm := hx.sm
  have wf := write_facts (n := n) (b := v) sm (by omega)
  have wb := writeAll_b (n := n) (b := v) sm (by omega)
  have wi := impl_WriteSec.sp (d := d) (by omega) sm n (b := v) (by omega)
  have wsp := spec_WriteSec.sp (d := d) (by omega) sm n (b := v) (by omega)
  subst hxx
  refine tc wi (tc wsp (tf (by simp) ?_))
  revert wf wb
  generalize writeAll (x1, x2, x3, x4, x5) n v = r
  intro wf wb
  refine tc (laws_sameDisk.self (x := dkOf r) (by omega) wb.fit) (tf rfl (tbif (fun c => ?_) fun c => tbif (fun c2 => ?_) fun c2 => ?_))
  · have hp : r.2.2.1 = x3 := by simpa using c
    obtain ⟨e, hne⟩ := wf.same hp
    have e1 : r.1 = x1 ∧ r.2.1 = x2 ∧ r.2.2.1 = x3 ∧ r.2.2.2.1 = x4 ∧ r.2.2.2.2.1 = x5 := by
      simp only [dkOf, Prod.mk.injEq] at e
      exact e
    rw [e1.1, e1.2.1, e1.2.2.1, e1.2.2.2.1, e1.2.2.2.2]
    refine tc (laws_sameDisk.self (x := (x1, x2, x3, x4, x5)) (by omega) sm.fit) (tt rfl (tl ?_))
    simpa using hne
  · have hp : r.2.2.1 ≠ x3 := by simpa using c
    have hne : r.2.2.2.2.2 ≠ 0 := by simpa using c2
    obtain ⟨l1, l2, l3, l4⟩ := wf.lost hp hne
    refine tt (by simpa using l1) (tt l2 (tt (by rw [l3]; rfl) (tc (impl_DiskOk.sp (by omega) (by have := wb.1.1; have := (inB_iff.1 (disk_parts (x := dkOf r) l4).2.2.1); have e : r.1.length = (dkOf r).1.length := rfl; omega) (by rw [l3]; simp) ?_) (tl l4))))
    have hf := (disk_parts (x := dkOf r) l4).2.2.2.2.2
    unfold faultsOkM at hf
    simp only [Bool.and_eq_true, decide_eq_true_eq] at hf
    have := hf.2
    have : (r.2.2.2.1.length : Int) ≤ 20 := this
    omega
  · have hp : r.2.2.1 ≠ x3 := by simpa using c
    have h0 : r.2.2.2.2.2 = 0 := by simpa using c2
    obtain ⟨e, hn, hon, hok⟩ := wf.put hp h0
    have e1 : r.1 = x1 ∧ r.2.1 = x2 ++ [(n, v)] ∧ r.2.2.1 = x3 + 1 ∧ r.2.2.2.1 = x4 ∧ r.2.2.2.2.1 = x5 := by
      simp only [dkOf, wrote, Prod.mk.injEq] at e
      exact e
    simp only at hn hon hok
    subst hon
    rw [e1.1, e1.2.1, e1.2.2.1, e1.2.2.2.1, e1.2.2.2.2]
    have smx := sm.1
    have smw := sm.2.1
    simp only at smx smw
    have hnn := inB_iff.1 hn
    -- the disk behind the write, without faults
    have W : dkSm (x1, x2 ++ [(n, v)], x3 + 1, [], false) := small_of (a := 7) (b := 62) (c := 0) (k := 300) hx.n (fun y hy => (hx.s y hy).1) (by have := hx.k; simp only [List.length_append, List.length_singleton] at this ⊢; omega)
      (fun w hw => by
        rcases List.mem_append.1 hw with h | h
        · exact (hx.w w h).1
        · obtain rfl := List.mem_singleton.1 h; exact hv) (by simp) (by omega) (by omega) (by omega) (by omega)
    have W4 : dkFit (x1, x2 ++ [(n, v)], x3 + 1, x4, false) := ⟨W.fit.1, W.fit.2.1, sm.fit.2.2⟩
    refine tc (impl_ReadSec.sp (x := (x1, x2 ++ [(n, v)], x3 + 1, x4, false)) (by omega) W4 n) (tc (impl_Flush.sp (x := (x1, x2 ++ [(n, v)], x3 + 1, [], false)) (by omega) W) ?_)
    have hi0 : n.toNat < x1.length := by omega
    have en : n = ((n.toNat : Nat) : Int) := by omega
    have hread : readM (x1, x2 ++ [(n, v)], x3 + 1, x4, false) n = (v, true) := by
      rw [en, readM_at (x := (x1, x2 ++ [(((n.toNat : Nat) : Int), v)], x3 + 1, x4, false)) hi0, lastW_app, if_pos rfl]
    rw [hread]
    -- the disk that was flushed
    have hG : ∃ G : Dk, ∃ code : Int, flushAll (x1, x2 ++ [(n, v)], x3 + 1, [], false) = packC (code, G) ∧ G.1.length = x1.length ∧ dkFit G ∧ (∀ i : Nat, i < x1.length → readM G (i : Int) = readM (x1, x2 ++ [(n, v)], x3 + 1, [], false) (i : Int)) ∧
        (code = 9 ∨ (code = 0 ∧ G.2.1 = [] ∧ ∃ h : n.toNat < G.1.length, G.1[n.toNat] = v)) := by
      unfold flushAll
      rw [if_pos hok]
      have hw0 : ∀ w ∈ x2 ++ [(n, v)], 0 ≤ w.1 := fun w hw => ((diskOk_good W hok).2.1 w hw).1
      by_cases g : x3 + 1 ≥ 100000
      · refine ⟨(x1, x2 ++ [(n, v)], x3 + 1, [], false), 9, ?_, rfl, W.fit, fun i hi => rfl, .inl rfl⟩
        have e2 : flushM (x1, x2 ++ [(n, v)], x3 + 1, [], false) = (9, x1, x2 ++ [(n, v)], x3 + 1, [], false) := by
          unfold flushM
          rw [if_neg (by simp), if_pos g]
        rw [e2]; rfl
      · refine ⟨(applyW x1 (x2 ++ [(n, v)]), [], x3 + 1 + 1, [], false), 0, ?_, applyW_len, ?_, fun i hi => ?_, .inr ⟨rfl, rfl, by show _ < (applyW _ _).length; rw [applyW_len]; exact hi0, ?_⟩⟩
        · have e2 : flushM (x1, x2 ++ [(n, v)], x3 + 1, [], false) = (0, applyW x1 (x2 ++ [(n, v)]), [], x3 + 1 + 1, [], false) := by
            unfold flushM
            rw [if_neg (by simp), if_neg g, if_neg (by simp [faultM])]
          rw [e2]; rfl
        · exact ⟨⟨by show (applyW _ _).length ≤ _; rw [applyW_len]; have := smx.1; omega, applyW_all (P := fun y => y.length ≤ 140737488351232) W.fit.1.2 W.fit.2.1.2⟩, ⟨by simp, fun w hw => by cases hw⟩, by simp⟩
        · have hia : i < (applyW x1 (x2 ++ [(n, v)])).length := by rw [applyW_len]; exact hi
          rw [readM_at (x := (applyW x1 (x2 ++ [(n, v)]), [], x3 + 1 + 1, [], false)) hia, readM_at (x := (x1, x2 ++ [(n, v)], x3 + 1, [], false)) hi]
          show ((applyW x1 (x2 ++ [(n, v)]))[i], true) = _
          rw [applyW_last hi hw0]
        · show (applyW x1 (x2 ++ [(n, v)]))[n.toNat]'(by rw [applyW_len]; exact hi0) = v
          rw [applyW_last hi0 hw0, ← en, lastW_app, if_pos rfl]
    obtain ⟨G, code, eG, gl, gf, gr, gc⟩ := hG
    rw [eG]
    show Tells (iter (laws_FnDisks.S0 d) rnds (n, true, code, 0, x1, x2, x3, x4, false, x1, x2 ++ [(n, v)], x3 + 1, [], false, G.1, G.2.1, G.2.2.1, G.2.2.2.1, G.2.2.2.2, v, v)) _
    refine loopE (laws_FnDisks.S0 d) x1.length (fun i => (n, true, code, i, x1, x2, x3, x4, false, x1, x2 ++ [(n, v)], x3 + 1, [], false, G.1, G.2.1, G.2.2.1, G.2.2.2.1, G.2.2.2.2, v, v)) (fun _ r => r = true) (by have := smx.1; omega) (fun L => ?_) fun L i hi ih => ?_
    · dsimp only [laws_FnDisks.S0, laws_FnDisks.s0]
      refine tn (by omega) (tt rfl (tc (laws_sameBytes.self (by omega) (by omega)) (tt rfl (tc (impl_DiskOk.sp (by omega) W.1.1 W.2.1.1 W.2.2.1) ?_))))
      rw [hok]
      refine tt rfl ?_
      rcases gc with hc | ⟨hc, hw, hlt, he⟩
      · subst hc; exact tf rfl (tl rfl)
      · subst hc
        rw [hw, en]
        refine tt rfl (tt rfl (ti hlt ?_))
        rw [getD_in hlt, he]
        exact tc (laws_sameBytes.self (by omega) (by omega)) (tt rfl (tl rfl))
    · dsimp only [laws_FnDisks.S0, laws_FnDisks.s0]
      have lr1 := readM_fit (x := (x1, x2, x3, x4, false)) (n := (i : Int)) ⟨smx.2, smw.2⟩
      have lr2 := readM_fit (x := (x1, x2 ++ [(n, v)], x3 + 1, [], false)) (n := (i : Int)) ⟨W.1.2, W.2.1.2⟩
      rw [wrap_succ (by have := smx.1; omega)]
      refine tp (by omega) (tc (impl_ReadSec.sp (x := (x1, x2, x3, x4, false)) (by omega) sm.fit _) (tc (impl_ReadSec.sp (x := (x1, x2 ++ [(n, v)], x3 + 1, [], false)) (by omega) W.fit _) (tc (impl_ReadSec.sp (x := G) (by omega) gf _) ?_)))
      rw [gr i hi]
      have last : Tells (Option.bind (laws_sameBytes.f d ((readM (x1, x2 ++ [(n, v)], x3 + 1, [], false) (i : Int)).1, (readM (x1, x2 ++ [(n, v)], x3 + 1, [], false) (i : Int)).1)) fun r => bif !r then some false else L (n, true, code, ((i + 1 : Nat) : Int), x1, x2, x3, x4, false, x1, x2 ++ [(n, v)], x3 + 1, [], false, G.1, G.2.1, G.2.2.1, G.2.2.2.1, G.2.2.2.2, v, v)) (· = true) :=
        tc (laws_sameBytes.self (by omega) (by omega)) (tf rfl ih)
      refine tbif (fun hne => ?_) fun _ => last
      have hne' : (i : Int) ≠ n := by simpa using hne
      have esame : (readM (x1, x2, x3, x4, false) (i : Int)).1 = (readM (x1, x2 ++ [(n, v)], x3 + 1, [], false) (i : Int)).1 := by
        rw [readM_at (x := (x1, x2, x3, x4, false)) hi, readM_at (x := (x1, x2 ++ [(n, v)], x3 + 1, [], false)) hi, lastW_app, if_neg (Ne.symm hne')]
      rw [esame]
      exact tc (laws_sameBytes.self (by omega) (by omega)) (tf rfl last)
end Go.PV.T
