/- Functions of the program by their own lists and numbers. No condition beyond those in each statement. -/
import Derived.Test.YticedidmodmdnaaPvPRx2
set_option linter.unusedVariables false
set_option linter.unusedSimpArgs false
set_option linter.unusedVariables false
namespace Go.PV.T
open Go Go.Proofs
theorem in_def (a lo hi : Int) : (bif decide (a ≥ lo) then some (decide (a ≤ hi)) else some false) = some (inB a lo hi) := by
  by_cases h : lo ≤ a <;> simp [inB, h]
theorem impl_in.sp {d : Nat} (hd : 1 ≤ d) (a lo hi : Int) : impl_in.f d (a, lo, hi) = some (inB a lo hi) := by
  obtain ⟨d, rfl, hd⟩ := dep hd
  rw [impl_in.t_eq]
  exact in_def a lo hi
theorem spec_l1In.sp {d : Nat} (hd : 1 ≤ d) (a lo hi : Int) : spec_l1In.f d (a, lo, hi) = some (inB a lo hi) := by
  obtain ⟨d, rfl, hd⟩ := dep hd
  rw [spec_l1In.t_eq]
  exact in_def a lo hi
def fOk (x : Int × Int × Int) : Bool := inB x.1 0 100000 && (inB x.2.1 0 1048575 && inB x.2.2 0 256)
def faultsM : Option (Int × Int × Int) → List (Int × Int × Int) → Bool
  | _, [] => true
  | p, x :: r => fOk x && (match p with
    | none => faultsM (some x) r
    | some y => !decide (y.1 ≥ x.1) && faultsM (some x) r)
def before (fs : List (Int × Int × Int)) (i : Nat) : Option (Int × Int × Int) := if i = 0 then none else fs[i - 1]?
theorem before_succ {fs : List (Int × Int × Int)} {i : Nat} (h : i < fs.length) : before fs (i + 1) = some fs[i] := by
  unfold before
  rw [if_neg (by omega), show i + 1 - 1 = i by omega]
  simp [h]
/-- what both rounds over the faults tell -/
theorem faults_round {fs : List (Int × Int × Int)} {i : Nat} {k : Bool} {x : Option Bool} (hi : i < fs.length) (hl : fs.length ≤ 1048576) {c : Int × Int × Int → Option Bool} (hc : ∀ a lo hi, c (a, lo, hi) = some (inB a lo hi))
    (ih : Tells x (· = (faultsM (before fs (i + 1)) (fs.drop (i + 1)) && k))) (b1 b2 b3 : Bool) (h1 : b1 = true) (h2 : b2 = true) (h3 : b3 = true) :
    Tells (Option.bind (c (fs[i].1, 0, 100000)) fun r1 => bif !r1 then some false else bif b1 then
      Option.bind (c (fs[i].2.1, 0, 1048575)) fun r2 => bif !r2 then some false else bif b2 then
        Option.bind (c (fs[i].2.2, 0, 256)) fun r3 => bif !r3 then some false else
          bif decide ((i : Int) > 0) then
            bif decide (0 ≤ IntKind.wrap IntKind.i64 ((i : Int) - 1)) && decide (IntKind.wrap IntKind.i64 ((i : Int) - 1) < (fs.length : Int)) then
              bif b3 then
                bif decide ((List.getD fs (Int.toNat (IntKind.wrap IntKind.i64 ((i : Int) - 1))) ((0 : Int), (0 : Int), (0 : Int))).1 ≥ fs[i].1) then some false else x
              else none
            else none
          else x
        else none
      else none) (· = (faultsM (before fs i) (fs.drop i) && k)) := by
  subst h1 h2 h3
  rw [drop_at hi, before_succ hi] at *
  simp only [faultsM, fOk]
  refine tc (hc _ _ _) (tbif (fun h => tl (by simp at h; simp [h])) fun h => ?_)
  refine tc (hc _ _ _) (tbif (fun h' => tl (by simp at h'; simp [h'])) fun h' => ?_)
  refine tc (hc _ _ _) (tbif (fun h'' => tl (by simp at h''; simp [h''])) fun h'' => ?_)
  simp only [Bool.not_eq_false'] at h h' h''
  rw [h, h', h'']
  by_cases h0 : i = 0
  · subst h0
    refine tn (by omega) ?_
    simpa [before] using ih
  · have hb : before fs i = some fs[i - 1] := by unfold before; rw [if_neg h0]; simp
    have e : IntKind.wrap IntKind.i64 ((i : Int) - 1) = ((i - 1 : Nat) : Int) := by rw [wrap_id (by omega) (by omega)]; omega
    rw [hb, e]
    refine tp (by omega) (ti (by omega) (tt rfl ?_))
    rw [getD_in (by omega)]
    refine tif (fun c => tl ?_) fun c => ?_
    · simp only [decide_eq_true c]; simp
    · simp only [decide_eq_false c]; simpa using ih
def faultsOkM (fs : List (Int × Int × Int)) : Bool := faultsM none fs && decide ((fs.length : Int) ≤ 20)
theorem spec_l12Faults.sp {d : Nat} (hd : 2 ≤ d) {fs : List (Int × Int × Int)} (hl : fs.length ≤ 1048576) : spec_l12Faults.f d fs = some (faultsOkM fs) := by
  obtain ⟨d, rfl, _⟩ := dep hd
  rw [spec_l12Faults.t_eq]
  refine Tells.eq ?_
  refine loopE (spec_l12Faults.S0 d) fs.length (fun i => (fs, i)) (fun i r => r = (faultsM (before fs i) (fs.drop i) && decide ((fs.length : Int) ≤ 20))) (by omega) (fun L => ?_) fun L i hi ih => ?_
  · dsimp only [spec_l12Faults.S0, spec_l12Faults.s0]
    exact tn (by omega) (tl (by simp [faultsM]))
  · dsimp only [spec_l12Faults.S0, spec_l12Faults.s0]
    refine tp (by omega) (ti hi ?_)
    rw [getD_in hi, wrap_succ (by omega)]
    exact faults_round hi hl (spec_l1In.sp (by omega)) ih _ _ _ (inr hi) (inr hi) (inr hi)
abbrev Dk := (List (List Int)) × (List (Int × (List Int))) × Int × (List (Int × Int × Int)) × Bool
/-- a disk's rows are no longer than memory holds -/
def dkFit (x : Dk) : Prop := (x.1.length ≤ 140737488351232 ∧ ∀ y ∈ x.1, y.length ≤ 140737488351232) ∧ (x.2.1.length ≤ 140737488351232 ∧ ∀ y ∈ x.2.1, y.2.length ≤ 140737488351232) ∧ x.2.2.2.1.length ≤ 140737488351232
def ww (x : Int × List Int) : Nat := x.2.length + 1
def dkW (x : Dk) : Nat := wSum List.length x.1 + wSum ww x.2.1 + wSum (fun _ : Int × Int × Int => 3) x.2.2.2.1
def noDk : Dk := ([], [], 0, [], false)
def newDk (n : Int) (fs : List (Int × Int × Int)) : Dk := if inB n 4 48 = true ∧ faultsOkM fs = true then (List.replicate n.toNat [], [], 0, fs, false) else noDk
theorem spec_DiskNew.sp {d : Nat} (hd : 3 ≤ d) {n : Int} {fs : List (Int × Int × Int)} (hl : fs.length ≤ 1048576) : spec_DiskNew.f d (n, fs) = some (newDk n fs) := by
  obtain ⟨d, rfl, _⟩ := dep hd
  rw [spec_DiskNew.t_eq]
  dsimp only [spec_DiskNew.m]
  refine Tells.eq ?_
  refine tc (spec_l1In.sp (by omega) _ _ _) (tbif (fun c => tl (by simp at c; simp [newDk, c, noDk])) fun c => ?_)
  refine tc (spec_l12Faults.sp (by omega) hl) (tbif (fun c2 => tl (by simp at c2; simp [newDk, c2, noDk])) fun c2 => ?_)
  simp only [Bool.not_eq_false'] at c c2
  have e : newDk n fs = (List.replicate n.toNat [], [], 0, fs, false) := by unfold newDk; rw [if_pos ⟨c, c2⟩]
  rw [e]
  have hn := inB_iff.1 c
  refine tp (by simp only [List.length_nil, Nat.zero_add]; omega) ?_
  have hz : n = ((n.toNat : Nat) : Int) := by omega
  refine loop0 (σ := List (List Int)) (spec_DiskNew.S0 d) n.toNat (fun st i => (n, i, [], [], 0, [], false, st, [], 0, [] ++ fs, false)) (fun st i => st = List.replicate i []) (fun _ _ r => r = (List.replicate n.toNat [], [], 0, fs, false)) [] (by omega) rfl ?_ ?_
  · rintro L st rfl
    dsimp only [spec_DiskNew.S0, spec_DiskNew.s0]
    exact tn (by omega) (tl rfl)
  · rintro L st i rfl hi ih
    dsimp only [spec_DiskNew.S0, spec_DiskNew.s0]
    refine tp (by omega) (tp (by simp; omega) ?_)
    rw [wrap_succ (by omega)]
    exact ih _ (by rw [List.replicate_succ'])
def dkOk (x : Dk) : Prop := okV (.row (.one (.row (.one (.int .u8))))) x.1 ∧ okV (.row (.cons (.int .i64) (.one (.row (.one (.int .u8)))))) x.2.1 ∧ okV (.row (.cons (.int .i64) (.cons (.int .i64) (.one (.int .i64))))) x.2.2.2.1
theorem okRow_len {cs : SS} {l : List cs.T} (h : okV (.row cs) l) : l.length ≤ 140737488351232 := Nat.le_trans (Nat.le_mul_of_pos_right _ (SS.size_pos cs)) h.1
theorem dkOk.fit {x : Dk} (h : dkOk x) : dkFit x :=
  ⟨⟨okRow_len h.1, fun y hy => okRow_len (h.1.2 y hy)⟩, ⟨okRow_len (cs := .cons (.int .i64) (.one (.row (.one (.int .u8))))) h.2.1, fun y hy => okRow_len (h.2.1.2 y hy).2⟩, okRow_len (cs := .cons (.int .i64) (.cons (.int .i64) (.one (.int .i64)))) h.2.2⟩
/-- no more than a million -/
def dkSm (x : Dk) : Prop := (x.1.length ≤ 1048576 ∧ ∀ y ∈ x.1, y.length ≤ 1048576) ∧ (x.2.1.length ≤ 1048576 ∧ ∀ y ∈ x.2.1, y.2.length ≤ 1048576) ∧ x.2.2.2.1.length ≤ 1048576 ∧ dkW x ≤ 10000000
theorem sum_three (l : List (Int × Int × Int)) : wSum (fun _ : Int × Int × Int => 3) l = 3 * l.length := by
  induction l with
  | nil => rfl
  | cons y l ih => rw [wSum_cons, ih, List.length_cons]; omega
theorem dkSm.fit {x : Dk} (h : dkSm x) : dkFit x := ⟨⟨by have := h.1.1; omega, fun y hy => by have := h.1.2 y hy; omega⟩, ⟨by have := h.2.1.1; omega, fun y hy => by have := h.2.1.2 y hy; omega⟩, by have := h.2.2.1; omega⟩
def lastW (ws : List (Int × List Int)) (n : Int) (z : List Int) : List Int := match ws.reverse.find? (fun w => w.1 == n) with
  | some w => w.2
  | none => z
theorem lastW_snoc {ws : List (Int × List Int)} {i : Nat} (h : i < ws.length) {n : Int} {z : List Int} : lastW (ws.take (i + 1)) n z = if ws[i].1 = n then ws[i].2 else lastW (ws.take i) n z := by
  unfold lastW
  rw [List.take_add_one, List.getElem?_eq_getElem h, Option.toList_some, List.reverse_append, List.reverse_singleton, List.singleton_append, List.find?_cons]
  by_cases hn : ws[i].1 = n
  · rw [if_pos hn, show (ws[i].1 == n) = true by simpa using hn]
  · rw [if_neg hn, show (ws[i].1 == n) = false by simpa using hn]
def readM (x : Dk) (n : Int) : List Int × Bool := if inB n 0 ((x.1.length : Int) - 1) = true then (lastW x.2.1 n (x.1.getD n.toNat []), true) else ([], false)
theorem lastW_mem {ws : List (Int × List Int)} {n : Int} {z : List Int} {P : List Int → Prop} (hz : P z) (hw : ∀ w ∈ ws, P w.2) : P (lastW ws n z) := by
  unfold lastW
  split
  · rename_i w h; exact hw w (List.mem_reverse.1 (List.mem_of_find?_eq_some h))
  · exact hz
theorem readM_fit {x : Dk} {n : Int} {k : Nat} (h : (∀ y ∈ x.1, y.length ≤ k) ∧ ∀ y ∈ x.2.1, y.2.length ≤ k) : (readM x n).1.length ≤ k := by
  unfold readM
  split
  · rename_i hn
    have := inB_iff.1 hn
    have hi : n.toNat < x.1.length := by omega
    refine lastW_mem (P := fun l => l.length ≤ k) ?_ h.2
    rw [List.getD_eq_getElem?_getD, List.getElem?_eq_getElem hi]
    exact h.1 _ (List.getElem_mem hi)
  · simp
theorem impl_copyBytes.sp {d : Nat} (hd : 1 ≤ d) {l : List Int} (hl : l.length ≤ 140737488351232) : impl_copyBytes.f d l = some l := by
  obtain ⟨d, rfl, _⟩ := dep hd
  rw [impl_copyBytes.t_eq]
  dsimp only [impl_copyBytes.m]
  exact Tells.eq (tp (by simp only [List.length_nil, Nat.zero_add]; omega) (tl rfl))
theorem spec_ReadSec.sp {d : Nat} (hd : 2 ≤ d) {x : Dk} (hf : dkFit x) (n : Int) : spec_ReadSec.f d (x.1, x.2.1, x.2.2.1, x.2.2.2.1, x.2.2.2.2, n) = some (readM x n) := by
  obtain ⟨d, rfl, _⟩ := dep hd
  rw [spec_ReadSec.t_eq]
  dsimp only [spec_ReadSec.m]
  have hl1 := hf.1.1
  have hl2 := hf.2.1.1
  rw [wrap_id (by omega) (by omega), wrap_id (by omega) (by omega)]
  refine Tells.eq (tc (spec_l1In.sp (by omega) _ _ _) (tbif (fun c => tl (by simp at c; simp [readM, c])) fun c => ?_))
  simp only [Bool.not_eq_false'] at c
  have hn := inB_iff.1 c
  have e : readM x n = (lastW (x.2.1.take x.2.1.length) n (x.1.getD n.toNat []), true) := by unfold readM; rw [if_pos c, List.take_length]
  rw [e]
  have hi : n.toNat < x.1.length := by omega
  have hz : n = ((n.toNat : Nat) : Int) := by omega
  refine loopDown (spec_ReadSec.S0 d) x.2.1.length (fun i => (n, i, x.1, x.2.1, x.2.2.1, x.2.2.2.1, x.2.2.2.2)) (fun i r => r = (lastW (x.2.1.take i) n (x.1.getD n.toNat []), true)) (by omega) (fun L => ?_) fun L i hi ih => ?_
  · dsimp only [spec_ReadSec.S0, spec_ReadSec.s0]
    have hb := hf.1.2 _ (List.getElem_mem hi)
    refine tn (by omega) (tt (by simp; omega) (tp ?_ (tl rfl)))
    rw [List.getD_eq_getElem?_getD, List.getElem?_eq_getElem hi]
    simp only [List.length_nil, Nat.zero_add, Option.getD_some]; omega
  · dsimp only [spec_ReadSec.S0, spec_ReadSec.s0]
    have hb := hf.2.1.2 _ (List.getElem_mem hi)
    rw [lastW_snoc hi, getD_in hi, wrap_id (by omega) (by omega)]
    refine tp (by omega) (ti hi (tbif (fun c => ti hi (tp (by simp only [List.length_nil, Nat.zero_add]; omega) (tl ?_))) fun c => ?_))
    · rw [if_pos (by simpa using c)]; rfl
    · rw [if_neg (by simpa using c)]; exact ih
theorem impl_ReadSec.sp {d : Nat} (hd : 2 ≤ d) {x : Dk} (hf : dkFit x) (n : Int) : impl_ReadSec.f d (x.1, x.2.1, x.2.2.1, x.2.2.2.1, x.2.2.2.2, n) = some (readM x n) := by
  obtain ⟨d, rfl, _⟩ := dep hd
  rw [impl_ReadSec.t_eq]
  dsimp only [impl_ReadSec.m]
  have hl1 := hf.1.1
  have hl2 := hf.2.1.1
  rw [wrap_id (by omega) (by omega), wrap_id (by omega) (by omega)]
  refine Tells.eq (tc (impl_in.sp (by omega) _ _ _) (tbif (fun c => tl (by simp at c; simp [readM, c])) fun c => ?_))
  simp only [Bool.not_eq_false'] at c
  have hn := inB_iff.1 c
  have e : readM x n = (lastW (x.2.1.take x.2.1.length) n (x.1.getD n.toNat []), true) := by unfold readM; rw [if_pos c, List.take_length]
  rw [e]
  have hi : n.toNat < x.1.length := by omega
  refine loopDown (impl_ReadSec.S0 d) x.2.1.length (fun i => (n, i, x.1, x.2.1, x.2.2.1, x.2.2.2.1, x.2.2.2.2)) (fun i r => r = (lastW (x.2.1.take i) n (x.1.getD n.toNat []), true)) (by omega) (fun L => ?_) fun L i hi ih => ?_
  · dsimp only [impl_ReadSec.S0, impl_ReadSec.s0]
    have hb := hf.1.2 _ (List.getElem_mem hi)
    refine tn (by omega) (tt (by simp; omega) (tc (impl_copyBytes.sp (by omega) ?_) (tl rfl)))
    rw [List.getD_eq_getElem?_getD, List.getElem?_eq_getElem hi]
    exact hb
  · dsimp only [impl_ReadSec.S0, impl_ReadSec.s0]
    rw [lastW_snoc hi, getD_in hi, wrap_id (by omega) (by omega)]
    refine tp (by omega) (ti hi (tbif (fun c => ti hi (tc (impl_copyBytes.sp (by omega) (hf.2.1.2 _ (List.getElem_mem hi))) (tl ?_))) fun c => ?_))
    · rw [if_pos (by simpa using c)]
    · rw [if_neg (by simpa using c)]; exact ih
def faultM (fs : List (Int × Int × Int)) (p : Int) : Int × Int × Int × Bool := match fs.find? (fun f => f.1 == p) with
  | some f => (f.1, f.2.1, f.2.2, true)
  | none => (0, 0, 0, false)
theorem faultM_cons {f : Int × Int × Int} {r : List (Int × Int × Int)} {p : Int} : faultM (f :: r) p = if f.1 = p then (f.1, f.2.1, f.2.2, true) else faultM r p := by
  unfold faultM
  rw [List.find?_cons]
  by_cases h : f.1 = p
  · rw [if_pos h, show (f.1 == p) = true by simpa using h]
  · rw [if_neg h, show (f.1 == p) = false by simpa using h]
theorem faultM_mem {fs : List (Int × Int × Int)} {p : Int} (h : (faultM fs p).2.2.2 = true) : ((faultM fs p).1, (faultM fs p).2.1, (faultM fs p).2.2.1) ∈ fs := by
  unfold faultM at h ⊢
  cases hf : fs.find? (fun f => f.1 == p) with
  | none => rw [hf] at h; cases h
  | some f => exact List.mem_of_find?_eq_some hf
theorem spec_l12Fault.sp {d : Nat} (hd : 1 ≤ d) {x : Dk} (h : dkFit x) : spec_l12Fault.f d (x.1, x.2.1, x.2.2.1, x.2.2.2.1, x.2.2.2.2) = some (faultM x.2.2.2.1 x.2.2.1) := by
  obtain ⟨d, rfl, _⟩ := dep hd
  rw [spec_l12Fault.t_eq]
  dsimp only [spec_l12Fault.m]
  have hl := h.2.2
  refine Tells.eq ?_
  refine loopE (spec_l12Fault.S0 d) x.2.2.2.1.length (fun i => (i, x.1, x.2.1, x.2.2.1, x.2.2.2.1, x.2.2.2.2, 0, 0, 0)) (fun i r => r = faultM (x.2.2.2.1.drop i) x.2.2.1) (by omega) (fun L => ?_) fun L i hi ih => ?_
  · dsimp only [spec_l12Fault.S0, spec_l12Fault.s0]
    exact tn (by omega) (tl (by simp [faultM]))
  · dsimp only [spec_l12Fault.S0, spec_l12Fault.s0]
    rw [drop_at hi, faultM_cons, getD_in hi, wrap_succ (by omega)]
    refine tp (by omega) (ti hi (tbif (fun c => ti hi (tl ?_)) fun c => ?_))
    · rw [if_pos (by simpa using c)]
    · rw [if_neg (by simpa using c)]; exact ih
def applyW : List (List Int) → List (Int × List Int) → List (List Int)
  | ss, [] => ss
  | ss, w :: r => applyW (ss.set w.1.toNat w.2) r
theorem applyW_snoc : ∀ {ws : List (Int × List Int)} {ss : List (List Int)} {w : Int × List Int}, applyW ss (ws ++ [w]) = (applyW ss ws).set w.1.toNat w.2
  | [], _, _ => rfl
  | _ :: r, ss, w => applyW_snoc (ws := r)
theorem applyW_len : ∀ {ws : List (Int × List Int)} {ss : List (List Int)}, (applyW ss ws).length = ss.length
  | [], _ => rfl
  | w :: r, ss => by rw [applyW, applyW_len (ws := r), List.length_set]
theorem applyW_all {P : List Int → Prop} : ∀ {ws : List (Int × List Int)} {ss : List (List Int)}, (∀ y ∈ ss, P y) → (∀ w ∈ ws, P w.2) → ∀ y ∈ applyW ss ws, P y
  | [], _, h, _ => h
  | w :: r, ss, h, hw => applyW_all (ws := r) (fun y hy => by
      rcases List.mem_or_eq_of_mem_set hy with h1 | h1
      · exact h y h1
      · rw [h1]; exact hw w (by simp)) fun x hx => hw x (by simp [hx])
/-- sectors that are there, rows that memory holds -/
def wrIn (n : Nat) (ws : List (Int × List Int)) : Prop := ∀ w ∈ ws, 0 ≤ w.1 ∧ w.1 < n ∧ w.2.length ≤ 1048576
/-- the mask's bit -/
def bitM (m : Int) (i : Nat) : Int := IntKind.wrap IntKind.i64 ((BitVec.ofInt (IntKind.bits IntKind.i64) (Int.fdiv m (2 ^ (min i (IntKind.bits IntKind.i64)))) &&& BitVec.ofInt (IntKind.bits IntKind.i64) (1 : Int)).toNat : Int)
theorem bitM_one (m : Int) (i : Nat) : bitM m i = 0 ∨ bitM m i = 1 := by
  unfold bitM
  have h : (BitVec.ofInt (IntKind.bits IntKind.i64) (Int.fdiv m (2 ^ (min i (IntKind.bits IntKind.i64)))) &&& BitVec.ofInt (IntKind.bits IntKind.i64) (1 : Int)).toNat ≤ 1 := by
    rw [BitVec.toNat_and]
    exact Nat.and_le_right
  rw [wrap_id (by omega) (by omega)]
  omega
def isKept (m : Int) (i : Nat) : Bool := decide (i < 20) && (bitM m i == 1)
def keptW (m : Int) (ws : List (Int × List Int)) : Nat → List (Int × List Int)
  | 0 => []
  | n + 1 => keptW m ws n ++ (if isKept m n = true then (match ws[n]? with | some w => [w] | none => []) else [])
theorem keptW_mem {m : Int} {ws : List (Int × List Int)} : ∀ {n : Nat} {w : Int × List Int}, w ∈ keptW m ws n → w ∈ ws
  | 0, w, h => by cases h
  | n + 1, w, h => by
    simp only [keptW, List.mem_append] at h
    rcases h with h | h
    · exact keptW_mem h
    · split at h
      · split at h
        · rename_i w' hw
          simp only [List.mem_singleton] at h
          rw [h]; exact List.mem_of_getElem? hw
        · cases h
      · cases h
theorem keptW_same {m : Int} {ws : List (Int × List Int)} {n : Nat} : ∀ k, (∀ j, n ≤ j → isKept m j = false ∨ ws.length ≤ j) → keptW m ws (n + k) = keptW m ws n
  | 0, _ => rfl
  | k + 1, h => by
    rw [← Nat.add_assoc]
    simp only [keptW]
    rw [keptW_same k h]
    rcases h (n + k) (by omega) with h1 | h1
    · rw [h1]; simp
    · rw [List.getElem?_eq_none h1]; simp
/-- the last one is cut -/
def cutW (c : Int) (w : Int × List Int) : Int × List Int := (w.1, w.2.take c.toNat)
def cutLast (c : Int) (l : List (Int × List Int)) : List (Int × List Int) := match l.getLast? with
  | none => []
  | some w => l.dropLast ++ [cutW c w]
theorem cutLast_snoc {c : Int} {l : List (Int × List Int)} {w : Int × List Int} : cutLast c (l ++ [w]) = l ++ [cutW c w] := by
  unfold cutLast
  rw [List.getLast?_concat, List.dropLast_concat]
def loseM (x : Dk) (m c : Int) : Dk := (applyW x.1 (cutLast c (keptW m x.2.1 x.2.1.length)), [], x.2.2.1, x.2.2.2.1, true)
theorem wrap_u64 {i : Nat} (h : i < 4611686018427387904) : IntKind.wrap IntKind.u64 (i : Int) = (i : Int) := by
  have e : (2 : Int) ^ 64 = 18446744073709551616 := by decide
  simp only [IntKind.wrap, IntKind.signed, IntKind.bits, Bool.false_and, Bool.false_eq_true, if_false, e]
  omega
theorem keptW_at {m : Int} {ws : List (Int × List Int)} {j : Nat} (h : j < ws.length) (hk : isKept m j = true) : keptW m ws (j + 1) = keptW m ws j ++ [ws[j]] := by
  simp only [keptW, hk, if_true, List.getElem?_eq_getElem h]
theorem keptW_not {m : Int} {ws : List (Int × List Int)} {j : Nat} (hk : isKept m j = false) : keptW m ws (j + 1) = keptW m ws j := by
  simp only [keptW, hk, Bool.false_eq_true, if_false, List.append_nil]
theorem spec_l12Lose.sp {d : Nat} (hd : 1 ≤ d) {x : Dk} {p m c : Int} (hl : x.2.1.length ≤ 1048576) (hw : wrIn x.1.length x.2.1) (hc : 0 ≤ c) : spec_l12Lose.f d (x.1, x.2.1, x.2.2.1, x.2.2.2.1, x.2.2.2.2, p, m, c) = some (loseM x m c) := by
  obtain ⟨d, rfl, _⟩ := dep hd
  rw [spec_l12Lose.t_eq]
  dsimp only [spec_l12Lose.m]
  refine Tells.eq ?_
  have hall : keptW m x.2.1 x.2.1.length = keptW m x.2.1 (min x.2.1.length 20) := by
    have h := keptW_same (m := m) (ws := x.2.1) (n := min x.2.1.length 20) (x.2.1.length - min x.2.1.length 20) fun j hj => by
      by_cases h20 : j < 20
      · exact .inr (by omega)
      · exact .inl (by unfold isKept; rw [decide_eq_false h20]; rfl)
    rwa [show min x.2.1.length 20 + (x.2.1.length - min x.2.1.length 20) = x.2.1.length by omega] at h
  -- the second round over the writes
  have two : ∀ st : Int, ((st = -1 ∧ keptW m x.2.1 x.2.1.length = []) ∨ ∃ j : Nat, st = j ∧ j < 20 ∧ j < x.2.1.length ∧ isKept m j = true ∧ keptW m x.2.1 x.2.1.length = keptW m x.2.1 (j + 1)) →
      Tells (iter (spec_l12Lose.S2 d) rnds (st, (0 : Int), x.1, x.2.1, x.2.2.1, x.2.2.2.1, x.2.2.2.2, p, m, c)) (· = loseM x m c) := by
    rintro st (⟨rfl, h⟩ | ⟨j, rfl, hj20, hj, hkj, h⟩)
    · refine loop0 (σ := Unit) (spec_l12Lose.S2 d) 0 (fun _ i => (-1, i, x.1, x.2.1, x.2.2.1, x.2.2.2.1, x.2.2.2.2, p, m, c)) (fun _ _ => True) (fun _ _ r => r = loseM x m c) () (by omega) trivial ?_ ?_
      · rintro L _ _
        dsimp only [spec_l12Lose.S2, spec_l12Lose.s2]
        exact tn (by omega) (tl (by unfold loseM; rw [h]; rfl))
      · intro _ _ i _ hi; cases hi
    · refine loop0 (σ := List (List Int)) (spec_l12Lose.S2 d) (j + 1) (fun st i => (j, i, st, x.2.1, x.2.2.1, x.2.2.2.1, x.2.2.2.2, p, m, c)) (fun st i => st = if i ≤ j then applyW x.1 (keptW m x.2.1 i) else applyW x.1 (cutLast c (keptW m x.2.1 (j + 1)))) (fun _ _ r => r = loseM x m c) x.1 (by omega) (by rw [if_pos (Nat.zero_le _)]; rfl) ?_ ?_
      · rintro L st rfl
        dsimp only [spec_l12Lose.S2, spec_l12Lose.s2]
        rw [if_neg (by omega)]
        exact tn (by omega) (tl (by unfold loseM; rw [h]))
      · rintro L st i rfl hi ih
        have hi' : i < x.2.1.length := by omega
        obtain ⟨w1, w2, w3⟩ := hw _ (List.getElem_mem hi')
        have hlen : (applyW x.1 (keptW m x.2.1 i)).length = x.1.length := applyW_len
        dsimp only [spec_l12Lose.S2, spec_l12Lose.s2]
        rw [if_pos (by omega), getD_in hi', wrap_succ (by omega), wrap_u64 (by omega), Int.toNat_natCast]
        refine tp (by omega) (ti hi' (tp (by omega) (tbif (fun c0 => ih _ ?_) fun c0 => ?_)))
        · have hb : isKept m i = false := by
            unfold isKept bitM
            have : (IntKind.wrap IntKind.i64 ((BitVec.ofInt (IntKind.bits IntKind.i64) (Int.fdiv m (2 ^ (min i (IntKind.bits IntKind.i64)))) &&& BitVec.ofInt (IntKind.bits IntKind.i64) (1 : Int)).toNat : Int)) = 0 := by simpa using c0
            rw [this]; simp
          have hne : i ≠ j := by rintro rfl; rw [hkj] at hb; cases hb
          rw [if_pos (by omega), keptW_not hb]
        · have hb : isKept m i = true := by
            have h1 := bitM_one m i
            unfold isKept
            rw [decide_eq_true (by omega)]
            unfold bitM at h1 ⊢
            rcases h1 with h1 | h1
            · rw [h1] at c0; cases c0
            · rw [h1]; rfl
          refine tbif (fun c1 => ?_) fun c1 => ?_
          · have e : i = j := by have := of_decide_eq_true c1; omega
            subst e
            refine tif (fun c2 => tt ?_ (tp ?_ (tt ?_ (ih _ ?_)))) fun c2 => tp ?_ (tt ?_ (ih _ ?_))
            · simp; omega
            · simp; omega
            · rw [hlen, decide_eq_true w1, decide_eq_true w2]; rfl
            · rw [if_neg (by omega), keptW_at hi' hb, cutLast_snoc, applyW_snoc]
              simp [cutW]
            · simp; omega
            · rw [hlen, decide_eq_true w1, decide_eq_true w2]; rfl
            · rw [if_neg (by omega), keptW_at hi' hb, cutLast_snoc, applyW_snoc]
              simp only [cutW, List.nil_append]
              rw [List.take_of_length_le (by omega)]
          · have e : i ≠ j := by rintro rfl; simp at c1
            refine tp ?_ (tt ?_ (ih _ ?_))
            · simp; omega
            · rw [hlen, decide_eq_true w1, decide_eq_true w2]; rfl
            · rw [if_pos (by omega), keptW_at hi' hb, applyW_snoc, List.nil_append]
  refine loop0 (σ := Int) (spec_l12Lose.S0 d) (min x.2.1.length 20) (fun st i => (st, i, x.1, x.2.1, x.2.2.1, x.2.2.2.1, x.2.2.2.2, p, m, c))
    (fun st i => (st = -1 ∧ keptW m x.2.1 i = []) ∨ ∃ j : Nat, st = j ∧ j < i ∧ isKept m j = true ∧ keptW m x.2.1 i = keptW m x.2.1 (j + 1)) (fun _ _ r => r = loseM x m c) (-1) (by omega) (.inl ⟨rfl, rfl⟩) ?_ ?_
  · rintro L st hI
    have h2 := two st (by
      rcases hI with ⟨h1, h2⟩ | ⟨j, h1, h2, h3, h4⟩
      · exact .inl ⟨h1, by rw [hall]; exact h2⟩
      · exact .inr ⟨j, h1, by omega, by omega, h3, by rw [hall]; exact h4⟩)
    dsimp only [spec_l12Lose.S0, spec_l12Lose.s0]
    exact tif (fun c1 => tn (by omega) h2) fun _ => h2
  · rintro L st i hI hi ih
    dsimp only [spec_l12Lose.S0, spec_l12Lose.s0]
    rw [wrap_succ (by omega), wrap_u64 (by omega), Int.toNat_natCast]
    refine tp (by omega) (tp (by omega) (tp (by omega) (tbif (fun c1 => ih _ ?_) fun c1 => ih _ ?_)))
    · have hb : isKept m i = true := by unfold isKept bitM; rw [c1, decide_eq_true (by omega)]; rfl
      exact .inr ⟨i, rfl, by omega, hb, rfl⟩
    · have hb : isKept m i = false := by unfold isKept bitM; rw [c1]; simp
      rw [keptW_not hb]
      rcases hI with h1 | ⟨j, h1, h2, h3, h4⟩
      · exact .inl h1
      · exact .inr ⟨j, h1, by omega, h3, h4⟩
def dkGood (x : Dk) : Prop := dkSm x ∧ wrIn x.1.length x.2.1 ∧ (∀ f ∈ x.2.2.2.1, 0 ≤ f.2.2) ∧ x.2.2.1 ≤ 1000000000 ∧ -1000000000 ≤ x.2.2.1
def pulsed (x : Dk) : Dk := (x.1, x.2.1, x.2.2.1 + 1, x.2.2.2.1, x.2.2.2.2)
def flushM (x : Dk) : Int × Dk :=
  if x.2.2.2.2 = true then (9, x) else if x.2.2.1 ≥ 100000 then (9, x)
  else if (faultM x.2.2.2.1 x.2.2.1).2.2.2 = true then (9, loseM (pulsed x) (faultM x.2.2.2.1 x.2.2.1).2.1 (faultM x.2.2.2.1 x.2.2.1).2.2.1)
  else (0, applyW x.1 x.2.1, [], x.2.2.1 + 1, x.2.2.2.1, x.2.2.2.2)
theorem spec_l12Flush.sp {d : Nat} (hd : 2 ≤ d) {x : Dk} (h : dkGood x) : spec_l12Flush.f d (x.1, x.2.1, x.2.2.1, x.2.2.2.1, x.2.2.2.2) = some (flushM x) := by
  obtain ⟨d, rfl, _⟩ := dep hd
  rw [spec_l12Flush.t_eq]
  dsimp only [spec_l12Flush.m]
  obtain ⟨sm, hw, hf, hp1, hp2⟩ := h
  unfold flushM
  refine Tells.eq (tbif (fun c1 => tl (by rw [if_pos c1])) fun c1 => ?_)
  rw [if_neg (by rw [c1]; simp)]
  refine tif (fun c2 => tl (by rw [if_pos c2])) fun c2 => ?_
  rw [if_neg c2, wrap_id (by omega) (by omega)]
  refine tc (spec_l12Fault.sp (by omega) sm.fit) (tbif (fun c3 => ?_) fun c3 => ?_)
  · rw [if_pos c3]
    have hcut := hf _ (faultM_mem c3)
    exact tc (spec_l12Lose.sp (x := pulsed x) (by omega) sm.2.1.1 hw hcut) (tl rfl)
  · rw [if_neg (by rw [c3]; simp)]
    have hl := sm.2.1.1
    refine loop0 (σ := List (List Int)) (spec_l12Flush.S0 d) x.2.1.length (fun st i => (i, st, x.2.1, x.2.2.1 + 1, x.2.2.2.1, x.2.2.2.2)) (fun st i => st = applyW x.1 (x.2.1.take i)) (fun _ _ r => r = (0, applyW x.1 x.2.1, [], x.2.2.1 + 1, x.2.2.2.1, x.2.2.2.2)) x.1 (by omega) rfl ?_ ?_
    · rintro L st rfl
      dsimp only [spec_l12Flush.S0, spec_l12Flush.s0]
      exact tn (by omega) (tl (by rw [List.take_length]))
    · rintro L st i rfl hi ih
      dsimp only [spec_l12Flush.S0, spec_l12Flush.s0]
      obtain ⟨w1, w2, w3⟩ := hw _ (List.getElem_mem hi)
      rw [getD_in hi, wrap_succ (by omega)]
      refine tp (by omega) (ti hi (ti hi (tt ?_ (ih _ ?_))))
      · rw [applyW_len, decide_eq_true w1, decide_eq_true w2]; rfl
      · rw [List.take_add_one, List.getElem?_eq_getElem hi, Option.toList_some, applyW_snoc]
theorem wSum_le {β : Type} {w : β → Nat} {k : Nat} : ∀ {l : List β}, (∀ x ∈ l, w x ≤ k) → wSum w l ≤ l.length * k
  | [], _ => Nat.zero_le _
  | x :: l, h => by
    have := wSum_le (l := l) fun y hy => h y (by simp [hy])
    have h0 := h x (by simp)
    rw [wSum_cons, List.length_cons, Nat.add_mul]
    omega
/-- rows and numbers of a size that may be marked -/
def dkB (x : Dk) : Prop := (x.1.length ≤ 1048577 ∧ ∀ y ∈ x.1, y.length ≤ 1048577) ∧ (x.2.1.length ≤ 1048577 ∧ ∀ y ∈ x.2.1, y.2.length ≤ 1048577) ∧ x.2.2.2.1.length ≤ 1048577
theorem dkB.fit {x : Dk} (h : dkB x) : dkFit x := ⟨⟨by have := h.1.1; omega, fun y hy => by have := h.1.2 y hy; omega⟩, ⟨by have := h.2.1.1; omega, fun y hy => by have := h.2.1.2 y hy; omega⟩, by have := h.2.2; omega⟩
def wrote (x : Dk) (n : Int) (b : List Int) : Dk := (x.1, x.2.1 ++ [(n, b)], x.2.2.1 + 1, x.2.2.2.1, x.2.2.2.2)
def writeM (x : Dk) (n : Int) (b : List Int) : Int × Dk :=
  if x.2.2.2.2 = true then (9, x) else if x.2.2.1 ≥ 100000 then (9, x) else if (x.2.1.length : Int) ≥ 60 then (1, x)
  else if (faultM x.2.2.2.1 x.2.2.1).2.2.2 = true then (9, loseM (wrote x n b) (faultM x.2.2.2.1 x.2.2.1).2.1 (faultM x.2.2.2.1 x.2.2.1).2.2.1)
  else (0, wrote x n b)
theorem wrote_in {x : Dk} {n : Int} {b : List Int} (hw : wrIn x.1.length x.2.1) (hn : inB n 0 ((x.1.length : Int) - 1) = true) (hb : b.length ≤ 1048576) : wrIn (wrote x n b).1.length (wrote x n b).2.1 := by
  intro w h
  have hi := inB_iff.1 hn
  rcases List.mem_append.1 h with h1 | h1
  · exact hw w h1
  · obtain rfl := List.mem_singleton.1 h1
    exact ⟨hi.1, by unfold wrote; simp only; omega, hb⟩
theorem spec_l12Write.sp {d : Nat} (hd : 2 ≤ d) {x : Dk} (h : dkGood x) {n : Int} {b : List Int} (hn : inB n 0 ((x.1.length : Int) - 1) = true) (hb : b.length ≤ 1048576) : spec_l12Write.f d (x.1, x.2.1, x.2.2.1, x.2.2.2.1, x.2.2.2.2, n, b) = some (writeM x n b) := by
  obtain ⟨d, rfl, _⟩ := dep hd
  rw [spec_l12Write.t_eq]
  dsimp only [spec_l12Write.m]
  obtain ⟨sm, hw, hf, hp1, hp2⟩ := h
  unfold writeM
  refine Tells.eq (tbif (fun c1 => tl (by rw [if_pos c1])) fun c1 => ?_)
  rw [if_neg (by rw [c1]; simp)]
  refine tif (fun c2 => tl (by rw [if_pos c2])) fun c2 => ?_
  rw [if_neg c2]
  refine tif (fun c3 => tl (by rw [if_pos c3])) fun c3 => ?_
  rw [if_neg c3, wrap_id (by omega) (by omega)]
  refine tc (spec_l12Fault.sp (by omega) sm.fit) (tp (by simp; omega) (tp (by simp; omega) (tbif (fun c3 => ?_) fun c3 => ?_)))
  · rw [if_pos c3]
    exact tc (spec_l12Lose.sp (x := wrote x n b) (by omega) (by unfold wrote; simp; omega) (wrote_in hw hn hb) (hf _ (faultM_mem c3))) (tl rfl)
  · rw [if_neg (by rw [c3]; simp)]
    exact tl rfl
theorem xx_u32 {a b : Nat} (ha : a < 2 ^ 32) (hb : b < 2 ^ 32) : IntKind.wrap IntKind.u32 ((BitVec.ofInt (IntKind.bits IntKind.u32) (a : Int) ^^^ BitVec.ofInt (IntKind.bits IntKind.u32) (b : Int)).toNat : Int) = ((a ^^^ b : Nat) : Int) := xor_u32 a b ha hb
theorem xx_i64 {a b : Nat} (ha : a < 2 ^ 32) (hb : b < 2 ^ 32) : IntKind.wrap IntKind.i64 ((BitVec.ofInt (IntKind.bits IntKind.i64) (a : Int) ^^^ BitVec.ofInt (IntKind.bits IntKind.i64) (b : Int)).toNat : Int) = ((a ^^^ b : Nat) : Int) := xor_i64 a b ha hb
theorem a1_u32 {a : Nat} (ha : a < 2 ^ 32) : IntKind.wrap IntKind.u32 ((BitVec.ofInt (IntKind.bits IntKind.u32) (a : Int) &&& BitVec.ofInt (IntKind.bits IntKind.u32) (1 : Int)).toNat : Int) = (a : Int) % 2 := and1_u32 a ha
theorem a1_i64 {a : Nat} (ha : a < 2 ^ 32) : IntKind.wrap IntKind.i64 ((BitVec.ofInt (IntKind.bits IntKind.i64) (a : Int) &&& BitVec.ofInt (IntKind.bits IntKind.i64) (1 : Int)).toNat : Int) = (a : Int) % 2 := and1_i64 a ha
theorem half (a : Nat) (k : Nat) (hk : 1 ≤ k) : Int.fdiv (a : Int) (2 ^ (min (Int.toNat (1 : Int)) k)) = ((a / 2 : Nat) : Int) := by
  rw [show min (Int.toNat (1 : Int)) k = 1 by simp; omega, show (2 : Int) ^ 1 = 2 from rfl, Int.fdiv_eq_ediv_of_nonneg _ (by omega)]
  omega
/-- eight rounds on one byte -/
theorem eight {A R : Type} (s : (A → Option R) → A → Option R) (mk : Nat → Int → A) (P : R → Prop) {x : Nat} (hx : x < 2 ^ 32)
    (base : ∀ L, Tells (s L (mk (crcN 8 x) 8)) P)
    (step : ∀ L (y j : Nat) Q, y < 2 ^ 32 → j < 8 → Tells (L (mk (crcStep y) ((j + 1 : Nat) : Int))) Q → Tells (s L (mk y (j : Int))) Q) : Tells (iter s rnds (mk x 0)) P := by
  refine loop0 (σ := Nat) s 8 mk (fun y j => y < 2 ^ 32 ∧ crcN (8 - j) y = crcN 8 x) (fun _ _ => P) x (by omega) ⟨hx, rfl⟩ ?_ ?_
  · rintro L y ⟨_, h⟩
    have : y = crcN 8 x := h
    rw [this]
    exact base L
  · rintro L y j ⟨h1, h2⟩ hj ih
    refine step L y j _ h1 hj (ih _ ⟨crcStep_lt h1, ?_⟩)
    rw [← h2, show 8 - j = (8 - (j + 1)) + 1 by omega]
    rfl
theorem byte_wrap_u32 {b : Int} (h0 : 0 ≤ b) (h1 : b ≤ 255) : IntKind.wrap IntKind.u32 b = ((b.toNat : Nat) : Int) := by
  rw [wraps_u32 b h0 (by omega)]; omega
theorem byte_wrap_i64 {b : Int} (h0 : 0 ≤ b) (h1 : b ≤ 255) : IntKind.wrap IntKind.i64 b = ((b.toNat : Nat) : Int) := by
  rw [wrap_id (by omega) (by omega)]; omega
theorem impl_Crc.sp {d : Nat} (hd : 1 ≤ d) {l : List Int} (hl : l.length ≤ 140737488355328) (hb : ∀ b ∈ l, 0 ≤ b ∧ b ≤ 255) : impl_Crc.f d l = some (crcM l) := by
  obtain ⟨d, rfl, _⟩ := dep hd
  rw [impl_Crc.t_eq]
  dsimp only [impl_Crc.m]
  refine Tells.eq ?_
  refine loop0 (σ := Nat) (impl_Crc.S0 d) l.length (fun x i => ((x : Int), l, (l.length : Int), i)) (fun x _ => x < 2 ^ 32) (fun x i r => r = ((crcFold x (l.drop i) ^^^ 4294967295 : Nat) : Int)) 4294967295 (by omega) (by decide) ?_ ?_
  · intro L x hx
    dsimp only [impl_Crc.S0, impl_Crc.s0]
    refine tn (by omega) (tl ?_)
    have e : (if IntKind.signed IntKind.u32 = true then (-1 : Int) else IntKind.max IntKind.u32) = ((4294967295 : Nat) : Int) := by decide
    rw [e, xx_u32 (by decide) hx, List.drop_length]
    have := Nat.xor_lt_two_pow (show 4294967295 < 2 ^ 32 by decide) hx
    rw [wrap_id (by omega) (by omega)]
    show _ = ((x ^^^ 4294967295 : Nat) : Int)
    rw [Nat.xor_comm]
  · intro L x i hx hi ih
    have hbb := hb _ (List.getElem_mem hi)
    dsimp only [impl_Crc.S0, impl_Crc.s0]
    rw [drop_at hi, getD_in hi, byte_wrap_u32 hbb.1 hbb.2, xx_u32 hx (by omega)]
    refine tp (by omega) (ti hi ?_)
    refine eight (impl_Crc.S2 d L) (fun y j => ((y : Int), l, (l.length : Int), (i : Int), j)) _ (Nat.xor_lt_two_pow hx (by omega)) (fun L2 => ?_) fun L2 y j Q hy hj ih2 => ?_
    · dsimp only [impl_Crc.S2, impl_Crc.s2]
      rw [wrap_succ (by omega)]
      exact tn (by omega) (ih (crcByte x l[i]) (crcByte_lt hx hbb.2))
    · dsimp only [impl_Crc.S2, impl_Crc.s2]
      rw [a1_u32 hy, half y _ (by decide), wrap_succ (by omega), show ((2197175160 : Int)) = ((2197175160 : Nat) : Int) from rfl, xx_u32 (by omega) (by decide)]
      unfold crcStep at ih2
      refine tp (by omega) (tp (by decide) (tbif (fun h => ?_) fun h => ?_))
      · have : (y : Int) % 2 = 1 := by simpa using h
        rwa [if_pos (by omega)] at ih2
      · have : ¬ (y : Int) % 2 = 1 := by simpa using h
        rwa [if_neg (by omega)] at ih2
theorem spec_Crc.sp {d : Nat} (hd : 1 ≤ d) {l : List Int} (hl : l.length ≤ 140737488355328) (hb : ∀ b ∈ l, 0 ≤ b ∧ b ≤ 255) : spec_Crc.f d l = some (crcM l) := by
  obtain ⟨d, rfl, _⟩ := dep hd
  rw [spec_Crc.t_eq]
  dsimp only [spec_Crc.m]
  refine Tells.eq ?_
  refine loop0 (σ := Nat) (spec_Crc.S0 d) l.length (fun x i => (l, (x : Int), i)) (fun x _ => x < 2 ^ 32) (fun x i r => r = ((crcFold x (l.drop i) ^^^ 4294967295 : Nat) : Int)) 4294967295 (by omega) (by decide) ?_ ?_
  · intro L x hx
    dsimp only [spec_Crc.S0, spec_Crc.s0]
    refine tn (by omega) (tl ?_)
    rw [show ((4294967295 : Int)) = ((4294967295 : Nat) : Int) from rfl, xx_i64 hx (by decide), List.drop_length]
    rfl
  · intro L x i hx hi ih
    have hbb := hb _ (List.getElem_mem hi)
    dsimp only [spec_Crc.S0, spec_Crc.s0]
    rw [drop_at hi, getD_in hi, byte_wrap_i64 hbb.1 hbb.2, xx_i64 hx (by omega)]
    refine tp (by omega) (ti hi ?_)
    refine eight (spec_Crc.S2 d L) (fun y j => (l, (y : Int), (i : Int), j)) _ (Nat.xor_lt_two_pow hx (by omega)) (fun L2 => ?_) fun L2 y j Q hy hj ih2 => ?_
    · dsimp only [spec_Crc.S2, spec_Crc.s2]
      rw [wrap_succ (by omega)]
      exact tn (by omega) (ih (crcByte x l[i]) (crcByte_lt hx hbb.2))
    · dsimp only [spec_Crc.S2, spec_Crc.s2]
      rw [a1_i64 hy, half y _ (by decide), wrap_succ (by omega), show ((2197175160 : Int)) = ((2197175160 : Nat) : Int) from rfl, xx_i64 (by omega) (by decide)]
      unfold crcStep at ih2
      refine tp (by omega) (tp (by decide) (tbif (fun h => ?_) fun h => ?_))
      · have : (y : Int) % 2 = 1 := by simpa using h
        rwa [if_pos (by omega)] at ih2
      · have : ¬ (y : Int) % 2 = 1 := by simpa using h
        rwa [if_neg (by omega)] at ih2
theorem impl_clamp.sp {d : Nat} (hd : 1 ≤ d) (n : Int) : impl_clamp.f d (n, 0, 1000000) = some (clampU n) := by
  obtain ⟨d, rfl, _⟩ := dep hd
  rw [impl_clamp.t_eq]
  dsimp only [impl_clamp.m]
  rw [clampU_mx]
  rfl
theorem u8_id {x : Int} (h0 : 0 ≤ x) (h1 : x ≤ 255) : IntKind.wrap IntKind.u8 x = x := by
  rw [IntKind.wrap_u8]; omega
theorem impl_addU.sp {d : Nat} (hd : 2 ≤ d) {l : List Int} {n : Int} (hl : l.length ≤ 100000000000) : impl_addU.f d (l, n) = some (l ++ uM n) := by
  obtain ⟨d, rfl, _⟩ := dep hd
  rw [impl_addU.t_eq]
  dsimp only [impl_addU.m]
  refine Tells.eq (tc (impl_clamp.sp (by omega) n) ?_)
  have hc := clampU_bd n
  unfold uM
  generalize clampU n = m at hc
  have last : ∀ (m : Int) (s : List Int) k, 0 ≤ m → m ≤ 127 → s.length ≤ 100000000010 → Tells (iter (impl_addU.S0 d) (k + 1) (m, s)) (· = s ++ [m]) := fun m s k h0 h1 h2 => by
    simp only [iter]
    dsimp only [impl_addU.S0, impl_addU.s0]
    rw [u8_id h0 (by omega)]
    exact tn (by omega) (tp (by simp; omega) (tl rfl))
  have more : ∀ (m : Int) (s : List Int) k Q, 127 < m → m ≤ 1000000 → s.length ≤ 100000000010 → Tells (iter (impl_addU.S0 d) k (m / 128, s ++ [m % 128 + 128])) Q → Tells (iter (impl_addU.S0 d) (k + 1) (m, s)) Q := fun m s k Q h0 h1 h2 ih => by
    simp only [iter]
    dsimp only [impl_addU.S0, impl_addU.s0]
    rw [Int.tmod_eq_emod_of_nonneg (by omega), Int.tdiv_eq_ediv_of_nonneg (by omega), wrap_id (x := m % 128 + 128) (by omega) (by omega), wrap_id (x := m / 128) (by omega) (by omega), u8_id (by omega) (by omega)]
    exact tp (by omega) (tp (by decide) (tp (by simp; omega) (tp (by decide) ih)))
  obtain ⟨k, hk⟩ : ∃ k, rnds = k + 1 + 1 + 1 := ⟨rnds - 3, by have := rnds_gt (n := 3) (by omega); omega⟩
  rw [hk]
  unfold groups
  by_cases c : m > 127
  · rw [if_pos c]
    refine more _ _ _ _ c hc.2 (by omega) ?_
    by_cases c2 : m / 128 > 127
    · rw [if_pos c2]
      refine more _ _ _ _ c2 (by omega) (by simp; omega) ?_
      have e : m / 128 / 128 = m / 16384 := by omega
      rw [e]
      exact (last _ _ _ (by omega) (by omega) (by simp; omega)).mono fun r hr => by rw [hr]; simp
    · rw [if_neg c2]
      exact (last _ _ _ (by omega) (by omega) (by simp; omega)).mono fun r hr => by rw [hr]; simp
  · rw [if_neg c]
    exact last _ _ _ (by omega) (by omega) (by omega)
theorem impl_addText.sp {d : Nat} (hd : 3 ≤ d) {l : List Int} {s : ByteArray} (hl : l.length ≤ 100000000000) (hs : s.size ≤ 1000000000) : impl_addText.f d (l, s) = some (l ++ txtM s) := by
  obtain ⟨d, rfl, _⟩ := dep hd
  rw [impl_addText.t_eq]
  dsimp only [impl_addText.m]
  have := uM_len s.size
  refine Tells.eq (tc (impl_addU.sp (by omega) hl) (tp ?_ (tl ?_)))
  · have h2 : (strNums s).length = s.size := by simp [strNums]
    rw [h2, List.length_append]; omega
  · unfold txtM
    rw [List.append_assoc]
theorem shr8 (c : Int) (k : Int) (j : Nat) (hk : k = 8 * (j : Int)) (hj : j ≤ 7) : Int.fdiv c (2 ^ (min (Int.toNat k) (IntKind.bits IntKind.i64))) = c / 256 ^ j := by
  subst hk
  exact shr_at c j hj
theorem impl_addSum.sp {d : Nat} (hd : 2 ≤ d) {l : List Int} (hl : l.length ≤ 100000000000) (hb : ∀ b ∈ l, 0 ≤ b ∧ b ≤ 255) : impl_addSum.f d l = some (l ++ sum4 (crcM l)) := by
  obtain ⟨d, rfl, _⟩ := dep hd
  rw [impl_addSum.t_eq]
  dsimp only [impl_addSum.m]
  refine Tells.eq (tc (impl_Crc.sp (by omega) (by omega) hb) (tp (by decide) (tp (by decide) (tp (by decide) (tp ?_ (tl ?_))))))
  · simp only [List.length_cons, List.length_nil]; omega
  · have hc := crcM_bd l fun b h => (hb b h).2
    rw [shr8 _ 24 3 rfl (by omega), shr8 _ 16 2 rfl (by omega), shr8 _ 8 1 rfl (by omega)]
    simp only [IntKind.wrap_u8, sum4]
    rfl
theorem impl_PutPage.sp {d : Nat} (hd : 4 ≤ d) {n : Int} {l : List Int} (hl : l.length ≤ 1000000000) (hb : ∀ b ∈ l, 0 ≤ b ∧ b ≤ 255) : impl_PutPage.f d (n, l) = some (pageM n l) := by
  obtain ⟨d, rfl, _⟩ := dep hd
  rw [impl_PutPage.t_eq]
  dsimp only [impl_PutPage.m]
  unfold pageM
  refine Tells.eq (tc (impl_in.sp (by omega) _ _ _) (tbif (fun c => tl ?_) fun c => ?_))
  · simp only [Bool.not_eq_true'] at c; rw [if_neg (by rw [c]; simp)]
  simp only [Bool.not_eq_false'] at c
  refine tif (fun c2 => tl ?_) fun c2 => ?_
  · rw [if_neg (fun h => by have := h.2; omega)]
  rw [if_pos ⟨c, by omega⟩]
  have hn := inB_iff.1 c
  have e := bytesOf_strOf l hb
  have e2 : (strOfNums l).size = l.length := strOfNums_size l
  have hp := impl_addText.sp (d := d) (by omega) (l := [] ++ uM n) (s := numsStr l) (by have := uM_len n; simp; omega) (by rw [e2]; omega)
  refine tc (impl_addU.sp (by omega) (by simp)) (tc hp (tc (impl_addSum.sp (by omega) ?_ ?_) (tl ?_)))
  · have h1 := uM_len n
    have h3 := txtM_len (numsStr l)
    rw [e2] at h3
    simp only [List.length_append, List.length_nil]; omega
  · exact app_bytes (app_bytes (by simp) (uM_bytes n)) (txtM_bytes _)
  · unfold pageBody txtM
    rw [e2, e]
    simp
theorem impl_PutSum.sp {d : Nat} (hd : 3 ≤ d) {l : List Int} (hl : l.length ≤ 1000000000) (hb : ∀ b ∈ l, 0 ≤ b ∧ b ≤ 255) : impl_PutSum.f d l = some (l ++ sum4 (crcM l)) := by
  obtain ⟨d, rfl, _⟩ := dep hd
  rw [impl_PutSum.t_eq]
  dsimp only [impl_PutSum.m]
  exact Tells.eq (tc (impl_copyBytes.sp (by omega) (by omega)) (tc (impl_addSum.sp (by omega) (by omega) hb) (tl rfl)))
theorem impl_GetU.sp {d : Nat} (hd : 1 ≤ d) {b : List Int} {at_ : Nat} (hl : b.length ≤ 1000000000) (ha : at_ ≤ 1000000000) (hb : ∀ x ∈ b, 0 ≤ x ∧ x ≤ 255) : impl_GetU.f d (b, (at_ : Int)) = some (tripU at_ (getUM (b.drop at_))) := by
  obtain ⟨d, rfl, _⟩ := dep hd
  rw [impl_GetU.t_eq]
  dsimp only [impl_GetU.m]
  refine Tells.eq ?_
  refine loop0 (σ := Int) (impl_GetU.S0 d) 3 (fun v i => (b, (at_ : Int), v, i)) (fun v i => 0 ≤ v ∧ v < 128 ^ i) (fun v i r => r = tripU at_ (getUR (3 - i) i v (b.drop (at_ + i)))) 0 (by omega) ⟨by omega, by simp⟩ ?_ ?_
  · rintro L v ⟨h0, h1⟩
    dsimp only [impl_GetU.S0, impl_GetU.s0]
    exact tn (by omega) (tl rfl)
  · rintro L v i ⟨h0, h1⟩ hi ih
    have w1 : IntKind.i64.wrap ((at_ : Int) + i) = ((at_ + i : Nat) : Int) := by rw [wrap_id (by omega) (by omega)]; omega
    obtain ⟨k, hk⟩ : ∃ k, 3 - i = k + 1 := ⟨2 - i, by omega⟩
    have hk2 : 3 - (i + 1) = k := by omega
    rw [hk2] at ih
    rw [hk]
    dsimp only [impl_GetU.S0, impl_GetU.s0]
    rw [w1, wrap_id (x := (b.length : Int) - i) (by omega) (by omega)]
    refine tp (by omega) (tp (by omega) ?_)
    by_cases c : at_ + i < b.length
    · have hd := drop_at c
      have hx0 := hb _ (List.getElem_mem c)
      rw [hd, getD_in c]
      generalize b[at_ + i] = x at hx0
      rw [wrap_id (x := x) (by omega) (by omega), wrap_id (x := 7 * (i : Int)) (by omega) (by omega), wrap_succ (by omega), Int.tmod_eq_emod_of_nonneg (by omega), show IntKind.wrap IntKind.i64 (x % 128 * 2 ^ (min (Int.toNat (7 * (i : Int))) (IntKind.bits IntKind.i64))) = x % 128 * 128 ^ i from shl_at (x % 128) i (by omega) (by omega) (by omega)]
      have BD := grp_bd i (by omega) (x % 128) v (by omega) (by omega) h0 h1
      have w4 : IntKind.i64.wrap (((at_ + i : Nat) : Int) + 1) = ((at_ + (i + 1) : Nat) : Int) := by rw [wrap_id (by omega) (by omega)]; omega
      have B1 := BD.1
      have B3 := BD.2.2.1
      have B2 := BD.2.1
      clear BD h1
      rw [wrap_id (x := v + x % 128 * 128 ^ i) (by omega) (by omega), w4]
      refine tp (by omega) (ti c (tp (by decide) (tp (by omega) (tif (fun g => ?_) fun g => ?_))))
      · rw [getUR, if_pos (by omega)]
        rw [show x % 128 = x - 128 by omega] at B1 B2 ⊢
        exact ih _ ⟨B1, B2⟩
      · rw [getUR, if_neg (by omega)]
        rw [show x % 128 = x by omega] at B1 B2 B3 ⊢
        refine tbif (fun g2 => ?_) fun g2 => ?_
        · have e0 : x = 0 := by simpa using g2
          refine tif (fun g3 => tl ?_) fun g3 => tif (fun g4 => tl ?_) fun g4 => tl ?_
          · rw [if_pos ⟨e0, by omega⟩]; rfl
          · rw [if_neg (fun h => g3 (by omega)), if_pos g4]; rfl
          · rw [if_neg (fun h => g3 (by omega)), if_neg g4]; rfl
        · have e0 : x ≠ 0 := by simpa using g2
          refine tif (fun g4 => tl ?_) fun g4 => tl ?_
          · rw [if_neg (fun h => e0 h.1), if_pos g4]; rfl
          · rw [if_neg (fun h => e0 h.1), if_neg g4]; rfl
    · rw [List.drop_eq_nil_of_le (by omega), getUR]
      exact tn (by omega) (tl rfl)
theorem spec_GetU.sp {d : Nat} (hd : 1 ≤ d) {b : List Int} {at_ : Nat} (hl : b.length ≤ 1000000000) (ha : at_ ≤ 1000000000) (hb : ∀ x ∈ b, 0 ≤ x ∧ x ≤ 255) : spec_GetU.f d (b, (at_ : Int)) = some (tripU at_ (getUM (b.drop at_))) := by
  obtain ⟨d, rfl, _⟩ := dep hd
  rw [spec_GetU.t_eq]
  dsimp only [spec_GetU.m]
  refine Tells.eq ?_
  refine loop0 (σ := Int) (spec_GetU.S0 d) 3 (fun v i => (b, (at_ : Int), v, i)) (fun v i => 0 ≤ v ∧ v < 128 ^ i) (fun v i r => r = tripU at_ (getUR (3 - i) i v (b.drop (at_ + i)))) 0 (by omega) ⟨by omega, by simp⟩ ?_ ?_
  · rintro L v ⟨h0, h1⟩
    dsimp only [spec_GetU.S0, spec_GetU.s0]
    exact tn (by omega) (tl rfl)
  · rintro L v i ⟨h0, h1⟩ hi ih
    have w1 : IntKind.i64.wrap ((at_ : Int) + i) = ((at_ + i : Nat) : Int) := by rw [wrap_id (by omega) (by omega)]; omega
    obtain ⟨k, hk⟩ : ∃ k, 3 - i = k + 1 := ⟨2 - i, by omega⟩
    have hk2 : 3 - (i + 1) = k := by omega
    rw [hk2] at ih
    rw [hk]
    dsimp only [spec_GetU.S0, spec_GetU.s0]
    rw [w1]
    refine tp (by omega) (tp (by omega) ?_)
    by_cases c : at_ + i < b.length
    · have hd := drop_at c
      have hx0 := hb _ (List.getElem_mem c)
      rw [hd, getD_in c]
      generalize b[at_ + i] = x at hx0
      have w7 : IntKind.wrap IntKind.u64 (IntKind.wrap IntKind.i64 (7 * (i : Int))) = 7 * (i : Int) := by rw [wrap_id (by omega) (by omega), show 7 * (i : Int) = ((7 * i : Nat) : Int) by omega, wrap_u64 (by omega)]
      rw [wrap_id (x := x) (by omega) (by omega), w7, wrap_succ (by omega), show IntKind.wrap IntKind.i64 ((BitVec.ofInt (IntKind.bits IntKind.i64) x &&& BitVec.ofInt (IntKind.bits IntKind.i64) (127 : Int)).toNat : Int) = x % 128 from and127 x (by omega) (by omega),
        show IntKind.wrap IntKind.i64 (x % 128 * 2 ^ (min (Int.toNat (7 * (i : Int))) (IntKind.bits IntKind.i64))) = x % 128 * 128 ^ i from shl_at (x % 128) i (by omega) (by omega) (by omega),
        show IntKind.wrap IntKind.i64 ((BitVec.ofInt (IntKind.bits IntKind.i64) v ||| BitVec.ofInt (IntKind.bits IntKind.i64) (x % 128 * 128 ^ i)).toNat : Int) = v + x % 128 * 128 ^ i from or_grp i (by omega) (x % 128) v (by omega) (by omega) h0 h1]
      have BD := grp_bd i (by omega) (x % 128) v (by omega) (by omega) h0 h1
      have w4 : IntKind.i64.wrap (((at_ + i : Nat) : Int) + 1) = ((at_ + (i + 1) : Nat) : Int) := by rw [wrap_id (by omega) (by omega)]; omega
      have B1 := BD.1
      have B2 := BD.2.1
      clear BD h1
      rw [w4]
      refine tp (by omega) (tp (by omega) (ti c (tp (by omega) (tif (fun g => ?_) fun g => ?_))))
      · rw [getUR, if_pos g]
        rw [show x % 128 = x - 128 by omega] at B1 B2 ⊢
        exact ih _ ⟨B1, B2⟩
      · rw [getUR, if_neg g]
        rw [show x % 128 = x by omega]
        refine tif (fun g2 => tbif (fun g3 => tl ?_) fun g3 => ?_) fun g2 => ?_
        · have e0 : x = 0 := by simpa using g3
          rw [if_pos ⟨e0, by omega⟩]; rfl
        · have e0 : x ≠ 0 := by simpa using g3
          refine tif (fun g4 => tl ?_) fun g4 => tl ?_
          · rw [if_neg (fun h => e0 h.1), if_pos g4]; rfl
          · rw [if_neg (fun h => e0 h.1), if_neg g4]; rfl
        · refine tif (fun g4 => tl ?_) fun g4 => tl ?_
          · rw [if_neg (fun h => g2 (by omega)), if_pos g4]; rfl
          · rw [if_neg (fun h => g2 (by omega)), if_neg g4]; rfl
    · rw [List.drop_eq_nil_of_le (by omega), getUR]
      refine tif (fun _ => ?_) fun _ => tl rfl
      exact tn (by omega) (tl rfl)
theorem text_tail {b : List Int} {at_ c : Nat} {n : Int} (hl : b.length ≤ 1000000000) (n0 : 0 ≤ n) (n1 : n ≤ 1000000) (cl : c ≤ (b.drop at_).length) (hat : at_ ≤ b.length) :
    Tells (bif decide (n > IntKind.wrap IntKind.i64 ((b.length : Int) - ((at_ + c : Nat) : Int))) then some (({ data := #[] } : ByteArray), (0 : Int), false)
      else bif decide ((0 : Int) ≤ ((at_ + c : Nat) : Int)) && decide (((at_ + c : Nat) : Int) ≤ IntKind.wrap IntKind.i64 (((at_ + c : Nat) : Int) + n)) && decide (IntKind.wrap IntKind.i64 (((at_ + c : Nat) : Int) + n) ≤ (b.length : Int)) then
        some (numsStr (List.drop (Int.toNat ((at_ + c : Nat) : Int)) (List.take (Int.toNat (IntKind.wrap IntKind.i64 (((at_ + c : Nat) : Int) + n))) b)), IntKind.wrap IntKind.i64 (((at_ + c : Nat) : Int) + n), true)
      else none) (· = tripT at_ (if n > ((b.drop at_).length : Int) - c then none else some (strOfNums (((b.drop at_).drop c).take n.toNat), c + n.toNat))) := by
  rw [List.length_drop] at cl ⊢
  rw [wrap_id (x := (b.length : Int) - ((at_ + c : Nat) : Int)) (by omega) (by omega), wrap_id (x := ((at_ + c : Nat) : Int) + n) (by omega) (by omega)]
  refine tif (fun g => tl ?_) fun g => ?_
  · rw [if_pos (show n > ((b.length - at_ : Nat) : Int) - c by omega)]; rfl
  · rw [if_neg (show ¬ n > ((b.length - at_ : Nat) : Int) - c by omega)]
    refine tt (by rw [decide_eq_true (by omega), decide_eq_true (by omega), decide_eq_true (by omega)]; rfl) (tl ?_)
    have e : (((at_ + c : Nat) : Int) + n).toNat = at_ + c + n.toNat := by omega
    rw [e, Int.toNat_natCast, List.drop_take, List.drop_drop]
    simp only [tripT]
    rw [show at_ + c + n.toNat - (at_ + c) = n.toNat by omega, show ((at_ + (c + n.toNat) : Nat) : Int) = ((at_ + c : Nat) : Int) + n by omega]
theorem impl_GetText.sp {d : Nat} (hd : 2 ≤ d) {b : List Int} {at_ : Nat} (hl : b.length ≤ 1000000000) (ha : at_ ≤ b.length) (hb : ∀ x ∈ b, 0 ≤ x ∧ x ≤ 255) : impl_GetText.f d (b, (at_ : Int)) = some (tripT at_ (getTextM (b.drop at_))) := by
  obtain ⟨d, rfl, _⟩ := dep hd
  rw [impl_GetText.t_eq]
  dsimp only [impl_GetText.m]
  have hbd : ∀ x ∈ b.drop at_, 0 ≤ x ∧ x ≤ 255 := fun x hx => hb x (List.mem_of_mem_drop hx)
  refine Tells.eq (tc (impl_GetU.sp (by omega) hl (by omega) hb) ?_)
  unfold getTextM
  cases hg : getUM (b.drop at_) with
  | none => exact tt rfl (tl rfl)
  | some p =>
    obtain ⟨n, c⟩ := p
    obtain ⟨n0, n1, cl, c1, _, _⟩ := getUM_exact hbd hg
    exact tf rfl (text_tail hl n0 n1 cl ha)
theorem spec_GetText.sp {d : Nat} (hd : 2 ≤ d) {b : List Int} {at_ : Nat} (hl : b.length ≤ 1000000000) (ha : at_ ≤ b.length) (hb : ∀ x ∈ b, 0 ≤ x ∧ x ≤ 255) : spec_GetText.f d (b, (at_ : Int)) = some (tripT at_ (getTextM (b.drop at_))) := by
  obtain ⟨d, rfl, _⟩ := dep hd
  rw [spec_GetText.t_eq]
  dsimp only [spec_GetText.m]
  have hbd : ∀ x ∈ b.drop at_, 0 ≤ x ∧ x ≤ 255 := fun x hx => hb x (List.mem_of_mem_drop hx)
  refine Tells.eq (tc (spec_GetU.sp (by omega) hl (by omega) hb) ?_)
  unfold getTextM
  cases hg : getUM (b.drop at_) with
  | none => exact tt rfl (tl rfl)
  | some p =>
    obtain ⟨n, c⟩ := p
    obtain ⟨n0, n1, cl, c1, _, _⟩ := getUM_exact hbd hg
    exact tf rfl (text_tail hl n0 n1 cl ha)
theorem toList_beq {a b : List Int} (ha : ∀ x ∈ a, 0 ≤ x ∧ x ≤ 255) (hb : ∀ x ∈ b, 0 ≤ x ∧ x ≤ 255) : ((numsStr a).toList == (numsStr b).toList) = decide (a = b) := by
  rw [Bool.eq_iff_iff, beq_iff_eq, decide_eq_true_iff]
  exact strOf_eq ha hb
theorem impl_GetSum.sp {d : Nat} (hd : 4 ≤ d) {b : List Int} (hl : b.length ≤ 1000000000) (hb : ∀ x ∈ b, 0 ≤ x ∧ x ≤ 255) : impl_GetSum.f d b = some (getSumM b) := by
  obtain ⟨d, rfl, _⟩ := dep hd
  rw [impl_GetSum.t_eq]
  dsimp only [impl_GetSum.m]
  unfold getSumM
  refine Tells.eq (tif (fun g => tl (by rw [if_pos (by omega)])) fun g => ?_)
  rw [if_neg (by omega), wrap_id (by omega) (by omega), show ((b.length : Int) - 4).toNat = b.length - 4 by omega]
  have hbt : ∀ x ∈ b.take (b.length - 4), 0 ≤ x ∧ x ≤ 255 := fun x hx => hb x (List.mem_of_mem_take hx)
  have lt : (b.take (b.length - 4)).length ≤ 1000000000 := by rw [List.length_take]; omega
  refine tt (by rw [decide_eq_true (by omega), decide_eq_true (by omega), decide_eq_true (by omega)]; rfl) ?_
  refine tc (impl_copyBytes.sp (by omega) (by simpa using by omega)) (tc (impl_PutSum.sp (by omega) (by simpa using lt) (by simpa using hbt)) ?_)
  simp only [Int.toNat_zero, List.drop_zero]
  rw [toList_beq (app_bytes hbt (sum4_bytes _)) hb]
  have e : b.take (b.length - 4) ++ sum4 (crcM (b.take (b.length - 4))) = b ↔ b.drop (b.length - 4) = sum4 (crcM (b.take (b.length - 4))) := by
    constructor
    · intro h
      have h2 : b.take (b.length - 4) ++ sum4 (crcM (b.take (b.length - 4))) = b.take (b.length - 4) ++ b.drop (b.length - 4) := by rw [h, List.take_append_drop]
      exact (List.append_cancel_left h2).symm
    · intro h
      rw [← h, List.take_append_drop]
  by_cases h : b.take (b.length - 4) ++ sum4 (crcM (b.take (b.length - 4))) = b
  · rw [decide_eq_true h, if_pos (e.1 h)]; exact tf rfl (tl rfl)
  · rw [decide_eq_false h, if_neg (fun h2 => h (e.2 h2))]; exact tt rfl (tl rfl)
theorem spec_GetSum.sp {d : Nat} (hd : 2 ≤ d) {b : List Int} (hl : b.length ≤ 1000000000) (hb : ∀ x ∈ b, 0 ≤ x ∧ x ≤ 255) : spec_GetSum.f d b = some (getSumM b) := by
  obtain ⟨d, rfl, _⟩ := dep hd
  rw [spec_GetSum.t_eq]
  dsimp only [spec_GetSum.m]
  unfold getSumM
  rw [wrap_id (by omega) (by omega)]
  refine Tells.eq (tif (fun g => tl (by rw [if_pos (by omega)])) fun g => ?_)
  rw [if_neg (by omega)]
  have hbt : ∀ x ∈ b.take (b.length - 4), 0 ≤ x ∧ x ≤ 255 := fun x hx => hb x (List.mem_of_mem_take hx)
  have hbd : ∀ x ∈ b.drop (b.length - 4), 0 ≤ x ∧ x ≤ 255 := fun x hx => hb x (List.mem_of_mem_drop hx)
  have l4 : (b.drop (b.length - 4)).length = 4 := by rw [List.length_drop]; omega
  have e0 : (b.length : Int) - 4 = ((b.length - 4 : Nat) : Int) := by omega
  have key : Tells (iter (spec_GetSum.S0 d) rnds (b, ((b.length - 4 : Nat) : Int), (0 : Int), ((b.length - 4 : Nat) : Int))) (· = if foldB 0 (b.drop (b.length - 4)) = crcM (b.take (b.length - 4)) then (b.take (b.length - 4), true) else (([] : List Int), false)) := by
    have h := loop0 (σ := Int) (spec_GetSum.S0 d) 4 (fun v i => (b, ((b.length - 4 : Nat) : Int), v, ((b.length - 4 : Nat) : Int) + i)) (fun v i => v = foldB 0 ((b.drop (b.length - 4)).take i)) (fun _ _ r => r = if foldB 0 (b.drop (b.length - 4)) = crcM (b.take (b.length - 4)) then (b.take (b.length - 4), true) else (([] : List Int), false)) 0 (by omega) rfl ?_ ?_
    · simpa using h
    · rintro L v rfl
      dsimp only [spec_GetSum.S0, spec_GetSum.s0]
      rw [show (b.drop (b.length - 4)).take 4 = b.drop (b.length - 4) from List.take_of_length_le (by omega)]
      refine tn (by omega) (tt (by rw [decide_eq_true (by omega), decide_eq_true (by omega), decide_eq_true (by omega)]; rfl) ?_)
      simp only [Int.toNat_zero, List.drop_zero, Int.toNat_natCast]
      refine tc (spec_Crc.sp (by omega) (by rw [List.length_take]; omega) hbt) (tbif (fun h => tl ?_) fun h => ?_)
      · rw [if_neg (by simpa using h)]
      · rw [if_pos (by simpa using h)]
        refine tt (by rw [decide_eq_true (by omega), decide_eq_true (by omega), decide_eq_true (by omega)]; rfl) (tp ?_ (tl (by simp)))
        simp only [List.length_nil, List.length_take]; omega
    · rintro L v i rfl hi ih
      have hx : b.length - 4 + i < b.length := by omega
      have bx := hb _ (List.getElem_mem hx)
      have hf := foldB_bd ((b.drop (b.length - 4)).take i) fun x hx => hbd x (List.mem_of_mem_take hx)
      have hlt : ((b.drop (b.length - 4)).take i).length ≤ 3 := by rw [List.length_take]; omega
      have hpow : (256 : Int) ^ ((b.drop (b.length - 4)).take i).length ≤ 16777216 := by
        generalize ((b.drop (b.length - 4)).take i).length = m at hlt
        have : m = 0 ∨ m = 1 ∨ m = 2 ∨ m = 3 := by omega
        rcases this with rfl | rfl | rfl | rfl <;> decide
      have hb3 : foldB 0 ((b.drop (b.length - 4)).take i) < 16777216 := Int.lt_of_lt_of_le hf.2 hpow
      have hf0 := hf.1
      clear hpow hf
      dsimp only [spec_GetSum.S0, spec_GetSum.s0]
      have ei : ((b.length - 4 : Nat) : Int) + (i : Int) = ((b.length - 4 + i : Nat) : Int) := by omega
      rw [ei, getD_in hx, wrap_succ (by omega), wrap_id (x := b[b.length - 4 + i]) (by omega) (by omega)]
      have e8 : IntKind.wrap IntKind.i64 (foldB 0 ((b.drop (b.length - 4)).take i) * 2 ^ (min (Int.toNat (8 : Int)) (IntKind.bits IntKind.i64))) = foldB 0 ((b.drop (b.length - 4)).take i) * 256 := by
        rw [show min (Int.toNat (8 : Int)) (IntKind.bits IntKind.i64) = 8 from rfl, show (2 : Int) ^ 8 = 256 from rfl, wrap_id (by omega) (by omega)]
      rw [e8, show IntKind.wrap IntKind.i64 ((BitVec.ofInt (IntKind.bits IntKind.i64) (foldB 0 ((b.drop (b.length - 4)).take i) * 256) ||| BitVec.ofInt (IntKind.bits IntKind.i64) b[b.length - 4 + i]).toNat : Int) = foldB 0 ((b.drop (b.length - 4)).take i) * 256 + b[b.length - 4 + i] from or_byte _ _ hf0 (by omega) bx.1 (by omega)]
      refine tp (by omega) (tp (by decide) (ti hx ?_))
      rw [show ((b.length - 4 + i + 1 : Nat) : Int) = ((b.length - 4 : Nat) : Int) + ((i + 1 : Nat) : Int) by omega]
      refine ih _ ?_
      have hi4 : i < (b.drop (b.length - 4)).length := by omega
      rw [List.take_add_one, List.getElem?_eq_getElem hi4, Option.toList_some, foldB_snoc, List.getElem_drop]
  rw [e0]
  refine key.mono fun r hr => ?_
  rw [hr]
  have hc := crcM_bd (b.take (b.length - 4)) fun x hx => (hbt x hx).2
  by_cases c : b.drop (b.length - 4) = sum4 (crcM (b.take (b.length - 4)))
  · rw [if_pos c, c, fold_sum4 _ hc.1 hc.2, if_pos rfl]
  · rw [if_neg c, if_neg]
    intro h2
    exact c (by rw [← h2, sum4_fold l4 hbd])
theorem sum_true {b body : List Int} (h : getSumM b = (body, true)) : 4 ≤ b.length ∧ b = body ++ sum4 (crcM body) ∧ body = b.take (b.length - 4) := by
  unfold getSumM at h
  by_cases h4 : b.length < 4
  · rw [if_pos h4] at h; cases h
  · rw [if_neg h4] at h
    split at h
    · rename_i h1
      simp only [Prod.mk.injEq, and_true] at h
      subst h
      exact ⟨by omega, by rw [← h1, List.take_append_drop], rfl⟩
    · cases h
theorem page_back {b body : List Int} {n : Int} {c c2 : Nat} {s : ByteArray} (hb : ∀ x ∈ b, 0 ≤ x ∧ x ≤ 255) (hs : getSumM b = (body, true)) (hu : getUM body = some (n, c)) (ht : getTextM (body.drop c) = some (s, c2)) :
    pageM n (strNums s) = b ↔ c + c2 = body.length ∧ inB n 1 2 = true ∧ s.size ≤ 240 := by
  obtain ⟨h4, e, et⟩ := sum_true hs
  have hbt : ∀ x ∈ body, 0 ≤ x ∧ x ≤ 255 := fun x hx => hb x (by rw [e]; simp [hx])
  obtain ⟨n0, n1, cl, c1, u1, u2⟩ := getUM_exact hbt hu
  have hbd : ∀ x ∈ body.drop c, 0 ≤ x ∧ x ≤ 255 := fun x hx => hbt x (List.mem_of_mem_drop hx)
  obtain ⟨t1, t2, t3⟩ := getTextM_exact hbd ht
  have hsz : (strNums s).length = s.size := bytesOf_length s
  have ulen : (uM n).length = c := by rw [u1, List.length_take]; omega
  rw [List.length_drop] at t1
  unfold pageM
  constructor
  · intro h
    by_cases hc : inB n 1 2 = true ∧ (strNums s).length ≤ 240
    · rw [if_pos hc] at h
      rw [hsz] at hc
      have hbody : body = pageBody n (strNums s) := by
        have h2 : body ++ sum4 (crcM body) = pageBody n (strNums s) ++ sum4 (crcM (pageBody n (strNums s))) := by rw [← e, h]
        exact (List.append_inj' h2 rfl).1
      have hd : body.drop c = txtM s ++ [] := by
        rw [hbody, ← ulen]
        unfold pageBody txtM
        rw [hsz, List.append_assoc, List.drop_left, List.append_nil]
      rw [hd, getTextM_put s (by omega)] at ht
      simp only [Option.some.injEq, Prod.mk.injEq, true_and] at ht
      refine ⟨?_, hc⟩
      have := congrArg List.length hd
      rw [List.length_drop, List.append_nil] at this
      omega
    · rw [if_neg hc] at h
      rw [← h] at h4
      simp at h4
  · rintro ⟨h1, h2, h3⟩
    rw [if_pos ⟨h2, by omega⟩]
    have hd : (body.drop c).drop c2 = [] := List.drop_eq_nil_of_le (by rw [List.length_drop]; omega)
    rw [hd, List.append_nil] at t2
    have : body = pageBody n (strNums s) := by
      conv => lhs; rw [u2, t2]
      unfold pageBody txtM
      rw [hsz, List.append_assoc]
    rw [← this]
    exact e.symm
def pageOf (body : List Int) (ok : Bool) : Int × List Int × Bool := match getUM body with
  | some (n, c) => (match getTextM (body.drop c) with
    | some (s, c2) => if ok = true ∧ c + c2 = body.length ∧ inB n 1 2 = true ∧ s.size ≤ 240 then (n, strNums s, true) else (0, [], false)
    | none => (0, [], false))
  | none => (0, [], false)
def getPageM (b : List Int) : Int × List Int × Bool := pageOf (getSumM b).1 (getSumM b).2
theorem pageOf_none {body : List Int} {ok : Bool} (h : getUM body = none) : pageOf body ok = (0, [], false) := by unfold pageOf; rw [h]
theorem pageOf_no {body : List Int} {ok : Bool} {n : Int} {c : Nat} (h : getUM body = some (n, c)) (h2 : getTextM (body.drop c) = none) : pageOf body ok = (0, [], false) := by unfold pageOf; rw [h]; simp only [h2]
theorem pageOf_some {body : List Int} {ok : Bool} {n : Int} {c c2 : Nat} {s : ByteArray} (h : getUM body = some (n, c)) (h2 : getTextM (body.drop c) = some (s, c2)) :
    pageOf body ok = if ok = true ∧ c + c2 = body.length ∧ inB n 1 2 = true ∧ s.size ≤ 240 then (n, strNums s, true) else (0, [], false) := by unfold pageOf; rw [h]; simp only [h2]
theorem getSumM_len (b : List Int) : (getSumM b).1.length ≤ b.length := by
  unfold getSumM
  split
  · simp
  · split
    · simp only [List.length_take]; omega
    · simp
theorem getSumM_bytes {b : List Int} (hb : ∀ x ∈ b, 0 ≤ x ∧ x ≤ 255) : ∀ x ∈ (getSumM b).1, 0 ≤ x ∧ x ≤ 255 := by
  unfold getSumM
  split
  · intro x hx; cases hx
  · split
    · intro x hx; exact hb x (List.mem_of_mem_take hx)
    · intro x hx; cases hx
theorem pageOf_false {body : List Int} : pageOf body false = (0, [], false) := by
  unfold pageOf
  split
  · split
    · rw [if_neg (by simp)]
    · rfl
  · rfl
theorem spec_GetPage.sp {d : Nat} (hd : 3 ≤ d) {b : List Int} (hl : b.length ≤ 1000000000) (hb : ∀ x ∈ b, 0 ≤ x ∧ x ≤ 255) : spec_GetPage.f d b = some (getPageM b) := by
  obtain ⟨d, rfl, _⟩ := dep hd
  rw [spec_GetPage.t_eq]
  dsimp only [spec_GetPage.m]
  have hlen := getSumM_len b
  have hbb := getSumM_bytes hb
  unfold getPageM
  refine Tells.eq (tc (spec_GetSum.sp (by omega) hl hb) ?_)
  revert hlen hbb
  generalize getSumM b = S
  obtain ⟨body, ok⟩ := S
  intro hlen hbb
  simp only at hlen hbb ⊢
  have hu := spec_GetU.sp (d := d) (b := body) (at_ := 0) (by omega) (by omega) (by omega) hbb
  rw [List.drop_zero] at hu
  refine tc hu ?_
  cases hg : getUM body with
  | none =>
    have ht := spec_GetText.sp (d := d) (b := body) (at_ := 0) (by omega) (by omega) (by omega) hbb
    rw [pageOf_none hg]
    refine tc ht ?_
    cases ok with
    | false => exact tt rfl (tl rfl)
    | true => exact tf rfl (tt rfl (tl rfl))
  | some p =>
    obtain ⟨n, c⟩ := p
    obtain ⟨n0, n1, cl, c1, _, _⟩ := getUM_exact hbb hg
    have ht := spec_GetText.sp (d := d) (b := body) (at_ := 0 + c) (by omega) (by omega) (by omega) hbb
    refine tc ht ?_
    rw [Nat.zero_add]
    cases ok with
    | false => rw [pageOf_false]; exact tt rfl (tl rfl)
    | true =>
      refine tf rfl (tf rfl ?_)
      cases hx : getTextM (body.drop c) with
      | none => rw [pageOf_no hg hx]; exact tt rfl (tl rfl)
      | some q =>
        obtain ⟨s, c2⟩ := q
        rw [pageOf_some hg hx]
        refine tf rfl ?_
        simp only [tripT, tripU]
        refine tbif (fun h => tl ?_) fun h => ?_
        · rw [if_neg]
          rintro ⟨_, h1, _⟩
          rw [h1] at h; simp at h
        · have h0 : ((c + c2 : Nat) : Int) = (body.length : Int) := by simpa using h
          refine tc (spec_l1In.sp (by omega) _ _ _) (tbif (fun h2 => tl ?_) fun h2 => tif (fun h3 => tl ?_) fun h3 => tl ?_)
          · simp only [Bool.not_eq_true'] at h2
            rw [if_neg]
            rintro ⟨_, _, h5, _⟩
            rw [h5] at h2; cases h2
          · rw [if_neg]
            rintro ⟨_, _, _, h5⟩
            omega
          · simp only [Bool.not_eq_false'] at h2
            rw [if_pos ⟨trivial, by omega, h2, by omega⟩]
theorem impl_GetPage.sp {d : Nat} (hd : 5 ≤ d) {b : List Int} (hl : b.length ≤ 1000000000) (hb : ∀ x ∈ b, 0 ≤ x ∧ x ≤ 255) : impl_GetPage.f d b = some (getPageM b) := by
  obtain ⟨d, rfl, _⟩ := dep hd
  rw [impl_GetPage.t_eq]
  dsimp only [impl_GetPage.m]
  have hlen := getSumM_len b
  have hbb := getSumM_bytes hb
  unfold getPageM
  refine Tells.eq (tc (impl_GetSum.sp (by omega) hl hb) ?_)
  cases hS : getSumM b with
  | mk body ok =>
  rw [hS] at hlen hbb
  simp only at hlen hbb ⊢
  have hu := impl_GetU.sp (d := d) (b := body) (at_ := 0) (by omega) (by omega) (by omega) hbb
  rw [List.drop_zero] at hu
  refine tc hu ?_
  cases hg : getUM body with
  | none =>
    have ht := impl_GetText.sp (d := d) (b := body) (at_ := 0) (by omega) (by omega) (by omega) hbb
    rw [pageOf_none hg]
    refine tc ht ?_
    cases ok with
    | false => exact tt rfl (tl rfl)
    | true => exact tf rfl (tt rfl (tl rfl))
  | some p =>
    obtain ⟨n, c⟩ := p
    obtain ⟨n0, n1, cl, c1, _, _⟩ := getUM_exact hbb hg
    have ht := impl_GetText.sp (d := d) (b := body) (at_ := 0 + c) (by omega) (by omega) (by omega) hbb
    refine tc ht ?_
    rw [Nat.zero_add]
    cases ok with
    | false => rw [pageOf_false]; exact tt rfl (tl rfl)
    | true =>
      refine tf rfl (tf rfl ?_)
      cases hx : getTextM (body.drop c) with
      | none => rw [pageOf_no hg hx]; exact tt rfl (tl rfl)
      | some q =>
        obtain ⟨s, c2⟩ := q
        have hbd : ∀ x ∈ body.drop c, 0 ≤ x ∧ x ≤ 255 := fun x hx => hbb x (List.mem_of_mem_drop hx)
        obtain ⟨t1, t2, t3⟩ := getTextM_exact hbd hx
        rw [List.length_drop] at t1
        have hsz : (strNums s).length = s.size := bytesOf_length s
        have pb := page_back hb hS hg hx
        rw [pageOf_some hg hx]
        refine tf rfl ?_
        simp only [tripT, tripU]
        refine tif (fun h => tl ?_) fun h => ?_
        · rw [if_neg]
          rintro ⟨_, _, h5, _⟩
          have := inB_iff.1 h5
          omega
        · have hpb : ∀ x ∈ pageM n (strNums s), 0 ≤ x ∧ x ≤ 255 := by
            unfold pageM
            split
            · exact app_bytes (pageBody_bytes _ _ (bytesOf_bytes s)) (sum4_bytes _)
            · intro x hx; cases hx
          refine tc (impl_PutPage.sp (by omega) (by omega) (bytesOf_bytes s)) ?_
          rw [toList_beq hpb hb]
          by_cases hp : pageM n (strNums s) = b
          · rw [decide_eq_true hp, if_pos ⟨trivial, pb.1 hp⟩]
            exact tf rfl (tl rfl)
          · rw [decide_eq_false hp, if_neg (fun h => hp (pb.2 h.2))]
            exact tt rfl (tl rfl)
theorem getPageM_len (b : List Int) : (getPageM b).2.1.length ≤ 240 := by
  unfold getPageM pageOf
  split
  · split
    · split
      · rename_i s _ _ h
        have : (strNums s).length = s.size := bytesOf_length s
        simp only; omega
      · simp
    · simp
  · simp
theorem okBytes {b : List Int} (h : okV (.row (.one (.int .u8))) b) : ∀ x ∈ b, 0 ≤ x ∧ x ≤ 255 := fun x hx => by
  have h1 := h.2 x hx
  have e1 : IntKind.u8.min = 0 := by decide
  have e2 : IntKind.u8.max = 255 := by decide
  simp only [okC, okV, e1, e2] at h1
  exact h1
theorem and_le_nat (x : Int) (n : Nat) (hn : n < 2 ^ 62) : 0 ≤ Go.bits .and .i64 x (n : Int) ∧ Go.bits .and .i64 x (n : Int) ≤ n := by
  have e : (BitVec.ofInt IntKind.i64.bits ((n : Nat) : Int)).toNat = n := by
    rw [BitVec.ofInt_natCast, BitVec.toNat_ofNat]
    exact Nat.mod_eq_of_lt (Nat.lt_of_lt_of_le hn (Nat.pow_le_pow_right (by decide) (by decide)))
  have h : (BitVec.ofInt IntKind.i64.bits x &&& BitVec.ofInt IntKind.i64.bits ((n : Nat) : Int)).toNat ≤ n := by
    rw [BitVec.toNat_and, e]
    exact Nat.and_le_right
  have g : Go.bits .and .i64 x (n : Int) = IntKind.i64.wrap ((BitVec.ofInt IntKind.i64.bits x &&& BitVec.ofInt IntKind.i64.bits ((n : Nat) : Int)).toNat : Int) := rfl
  rw [g, IntKind.wrap_i64]
  omega
theorem low_byte (x : Int) : 0 ≤ IntKind.wrap IntKind.i64 ((BitVec.ofInt (IntKind.bits IntKind.i64) x &&& BitVec.ofInt (IntKind.bits IntKind.i64) (255 : Int)).toNat : Int) ∧ IntKind.wrap IntKind.i64 ((BitVec.ofInt (IntKind.bits IntKind.i64) x &&& BitVec.ofInt (IntKind.bits IntKind.i64) (255 : Int)).toNat : Int) ≤ 255 := and_le_nat x 255 (by decide)
/-- a cursor over bytes -/
def cur (b : List Int) (p : Int) : Prop := b.length ≤ 1048576 ∧ 0 ≤ p ∧ p ≤ b.length
theorem spec_l1New.sp {d : Nat} (hd : 1 ≤ d) {b : List Int} (hl : b.length ≤ 1048576) : Tells (spec_l1New.f d b) fun r => r.1 = b ∧ cur b r.2.1 := by
  obtain ⟨d, rfl, _⟩ := dep hd
  rw [spec_l1New.t_eq]
  dsimp only [spec_l1New.m]
  refine loop0 (σ := Int) (spec_l1New.S0 d) (min b.length 4000) (fun x i => (b, x, i)) (fun _ _ => True) (fun _ _ r => r.1 = b ∧ cur b r.2.1) _ (by omega) trivial ?_ ?_
  · intro L x _
    have hc : cur b 0 := ⟨hl, by omega, by omega⟩
    dsimp only [spec_l1New.S0, spec_l1New.s0]
    exact tif (fun _ => tif (fun _ => ti (by omega) (by omega)) fun _ => tl ⟨rfl, hc⟩) fun _ => tl ⟨rfl, hc⟩
  · intro L x i _ hi ih
    dsimp only [spec_l1New.S0, spec_l1New.s0]
    refine tp (by omega) (tp (by omega) (ti (by omega) ?_))
    rw [wrap_succ (by omega)]
    exact ih _ trivial
theorem spec_l1Byte.sp {d : Nat} (hd : 1 ≤ d) {b : List Int} {p x : Int} (hc : cur b p) : Tells (spec_l1Byte.f d (b, p, x)) fun r => 0 ≤ r.1 ∧ r.1 ≤ 255 ∧ cur b r.2.1 := by
  obtain ⟨d, rfl, _⟩ := dep hd
  rw [spec_l1Byte.t_eq]
  dsimp only [spec_l1Byte.m]
  obtain ⟨h1, h2, h3⟩ := hc
  refine tp (by decide) (tp (by decide) (tif (fun c => tt (by rw [decide_eq_true h2, decide_eq_true c]; rfl) (tl ?_)) fun c => tl ?_))
  · refine ⟨(low_byte _).1, (low_byte _).2, h1, ?_⟩
    show 0 ≤ IntKind.wrap IntKind.i64 (p + 1) ∧ IntKind.wrap IntKind.i64 (p + 1) ≤ (b.length : Int)
    rw [wrap_id (x := p + 1) (by omega) (by omega)]
    omega
  · exact ⟨(low_byte _).1, (low_byte _).2, h1, h2, h3⟩
theorem spec_l1Below.sp {d : Nat} (hd : 2 ≤ d) {b : List Int} {p x n : Int} (hc : cur b p) : Tells (spec_l1Below.f d (b, p, x, n)) fun r => 0 ≤ r.1 ∧ (0 < n → r.1 < n) ∧ cur b r.2.1 := by
  obtain ⟨d, rfl, _⟩ := dep hd
  rw [spec_l1Below.t_eq]
  dsimp only [spec_l1Below.m]
  refine tif (fun c => tl ⟨by omega, fun h => by omega, hc⟩) fun c => tif (fun c2 => ?_) fun c2 => ?_
  · refine tb (spec_l1Byte.sp (by omega) hc) fun r hr => tp (by omega) (tl ?_)
    rw [Int.tmod_eq_emod_of_nonneg hr.1]
    exact ⟨Int.emod_nonneg _ (by omega), fun _ => Int.emod_lt_of_pos _ (by omega), hr.2.2⟩
  · refine tb (spec_l1Byte.sp (by omega) hc) fun r2 h2 => tb (spec_l1Byte.sp (by omega) h2.2.2) fun r3 h3 => tb (spec_l1Byte.sp (by omega) h3.2.2) fun r4 h4 => tp (by omega) (tl ?_)
    have e : IntKind.wrap IntKind.i64 ((IntKind.wrap IntKind.i64 ((IntKind.wrap IntKind.i64 (r2.1 * (65536 : Int))) + (IntKind.wrap IntKind.i64 (r3.1 * (256 : Int))))) + r4.1) = r2.1 * 65536 + r3.1 * 256 + r4.1 := by
      rw [wrap_id (x := r2.1 * 65536) (by omega) (by omega), wrap_id (x := r3.1 * 256) (by omega) (by omega), wrap_id (x := r2.1 * 65536 + r3.1 * 256) (by omega) (by omega), wrap_id (by omega) (by omega)]
    rw [e, Int.tmod_eq_emod_of_nonneg (by omega)]
    exact ⟨Int.emod_nonneg _ (by omega), fun _ => Int.emod_lt_of_pos _ (by omega), h4.2.2⟩
theorem spec_l1Int.sp {d : Nat} (hd : 3 ≤ d) {b : List Int} {p x : Int} {l : List Int} (hc : cur b p) (h0 : 0 < l.length) : Tells (spec_l1Int.f d (b, p, x, l)) fun r => r.1 ∈ l ∧ cur b r.2.1 := by
  obtain ⟨d, rfl, _⟩ := dep hd
  rw [spec_l1Int.t_eq]
  dsimp only [spec_l1Int.m]
  refine tb (spec_l1Below.sp (by omega) hc) fun r hr => ?_
  have hlt := hr.2.1 (by omega)
  have hi : r.1.toNat < l.length := by omega
  have e : r.1 = ((r.1.toNat : Nat) : Int) := by omega
  rw [e]
  refine ti hi (tl ?_)
  rw [getD_in hi]
  exact ⟨List.getElem_mem hi, hr.2.2⟩
theorem spec_l1Once.sp {d : Nat} (hd : 3 ≤ d) {b : List Int} {p x n : Int} (hc : cur b p) : Tells (spec_l1Once.f d (b, p, x, n)) fun r => cur b r.2.1 := by
  obtain ⟨d, rfl, _⟩ := dep hd
  rw [spec_l1Once.t_eq]
  dsimp only [spec_l1Once.m]
  exact tb (spec_l1Below.sp (by omega) hc) fun r hr => tl hr.2.2
theorem u8_bd (x : Int) : 0 ≤ IntKind.wrap IntKind.u8 x ∧ IntKind.wrap IntKind.u8 x ≤ 255 := by rw [IntKind.wrap_u8]; omega
theorem spec_l1Bytes.sp {d : Nat} (hd : 2 ≤ d) {b : List Int} {p x n : Int} (hc : cur b p) (h0 : 0 ≤ n) (h1 : n ≤ 1000000) : Tells (spec_l1Bytes.f d (b, p, x, n)) fun r => r.1.length = n.toNat ∧ (∀ y ∈ r.1, 0 ≤ y ∧ y ≤ 255) ∧ cur b r.2.1 := by
  obtain ⟨d, rfl, _⟩ := dep hd
  rw [spec_l1Bytes.t_eq]
  dsimp only [spec_l1Bytes.m]
  refine loop0 (σ := Int × Int × List Int) (spec_l1Bytes.S0 d) n.toNat (fun st i => (n, i, b, st.1, st.2.1, st.2.2)) (fun st i => cur b st.1 ∧ st.2.2.length = i ∧ ∀ y ∈ st.2.2, 0 ≤ y ∧ y ≤ 255) (fun _ _ r => r.1.length = n.toNat ∧ (∀ y ∈ r.1, 0 ≤ y ∧ y ≤ 255) ∧ cur b r.2.1) (p, x, []) (by omega) ⟨hc, rfl, fun y hy => by cases hy⟩ ?_ ?_
  · rintro L st ⟨h1, h2, h3⟩
    dsimp only [spec_l1Bytes.S0, spec_l1Bytes.s0]
    exact tn (by omega) (tl ⟨h2, h3, h1⟩)
  · rintro L st i ⟨h1, h2, h3⟩ hi ih
    dsimp only [spec_l1Bytes.S0, spec_l1Bytes.s0]
    refine tp (by omega) (tb (spec_l1Byte.sp (by omega) h1) fun r hr => tp ?_ ?_)
    · simp only [List.length_cons, List.length_nil]; omega
    · rw [wrap_succ (by omega)]
      refine ih (r.2.1, r.2.2, st.2.2 ++ [IntKind.wrap IntKind.u8 r.1]) ⟨hr.2.2, by simp [h2], fun y hy => ?_⟩
      rcases List.mem_append.1 hy with h | h
      · exact h3 y h
      · obtain rfl := List.mem_singleton.1 h
        exact u8_bd _
theorem spec_l1Some.sp {d : Nat} (hd : 4 ≤ d) {b : List Int} {p x : Int} (hc : cur b p) : Tells (spec_l1Some.f d (b, p, x)) fun r => r.1.length ≤ 9 ∧ (∀ y ∈ r.1, 0 ≤ y ∧ y ≤ 255) ∧ cur b r.2.1 := by
  obtain ⟨d, rfl, _⟩ := dep hd
  rw [spec_l1Some.t_eq]
  dsimp only [spec_l1Some.m]
  refine tb (spec_l1Int.sp (by omega) hc (by simp)) fun r hr => ?_
  have h9 : 0 ≤ r.1 ∧ r.1 ≤ 9 := by
    have := hr.1
    simp only [List.mem_cons, List.not_mem_nil, or_false] at this
    omega
  refine tb (spec_l1Bytes.sp (by omega) hr.2 h9.1 (by omega)) fun r2 h2 => tl ⟨?_, h2.2⟩
  have := h2.1
  simp only; omega
theorem laws_big.sp {d : Nat} (hd : 1 ≤ d) (b : List Int) : laws_big.f d b = some (decide ((b.length : Int) > 1048576)) := by
  obtain ⟨d, rfl, _⟩ := dep hd
  rw [laws_big.t_eq]
  rfl
theorem laws_sameBytes.self {d : Nat} (hd : 1 ≤ d) {l : List Int} (hl : l.length ≤ 140737488351232) : laws_sameBytes.f d (l, l) = some true := by
  obtain ⟨d, rfl, _⟩ := dep hd
  rw [laws_sameBytes.t_eq]
  refine Tells.eq ?_
  dsimp only [laws_sameBytes.m]
  refine tf (by simp) ?_
  refine loopE (laws_sameBytes.S0 d) l.length (fun i => (l, l, i)) (fun _ r => r = true) (by omega) (fun L => ?_) fun L i hi ih => ?_
  · dsimp only [laws_sameBytes.S0, laws_sameBytes.s0]
    exact tn (by omega) (tl rfl)
  · dsimp only [laws_sameBytes.S0, laws_sameBytes.s0]
    refine tp (by omega) (ti hi (ti hi (tf (by simp) ?_)))
    rwa [wrap_succ (by omega)]
/-- a disk's bytes are bytes -/
def dkBytes (x : Dk) : Prop := (∀ y ∈ x.1, ∀ z ∈ y, 0 ≤ z ∧ z ≤ 255) ∧ ∀ w ∈ x.2.1, ∀ z ∈ w.2, 0 ≤ z ∧ z ≤ 255
theorem dkOk.bytes {x : Dk} (h : dkOk x) : dkBytes x := ⟨fun y hy => okBytes (h.1.2 y hy), fun w hw => okBytes (h.2.1.2 w hw).2⟩
theorem readM_bytes {x : Dk} {n : Int} (h : dkBytes x) : ∀ z ∈ (readM x n).1, 0 ≤ z ∧ z ≤ 255 := by
  unfold readM
  split
  · rename_i hn
    have := inB_iff.1 hn
    have hi : n.toNat < x.1.length := by omega
    refine lastW_mem (P := fun l => ∀ z ∈ l, 0 ≤ z ∧ z ≤ 255) ?_ h.2
    rw [List.getD_eq_getElem?_getD, List.getElem?_eq_getElem hi]
    exact h.1 _ (List.getElem_mem hi)
  · intro z hz; cases hz
def pageAtM (x : Dk) (n k : Int) : List Int × Bool := if (readM x n).2 = true ∧ (getPageM (readM x n).1).2.2 = true ∧ (getPageM (readM x n).1).1 = k then ((getPageM (readM x n).1).2.1, true) else ([], false)
theorem pageAt_tail (x : Dk) (n k : Int) : Tells (bif !(readM x n).2 then some (([] : List Int), false) else bif !(getPageM (readM x n).1).2.2 then some (([] : List Int), false) else bif (getPageM (readM x n).1).1 != k then some (([] : List Int), false) else some ((getPageM (readM x n).1).2.1, true)) (· = pageAtM x n k) := by
  unfold pageAtM
  refine tbif (fun h => tl ?_) fun h => tbif (fun h2 => tl ?_) fun h2 => tbif (fun h3 => tl ?_) fun h3 => tl ?_
  · simp only [Bool.not_eq_true'] at h; rw [if_neg (fun c => by rw [c.1] at h; cases h)]
  · simp only [Bool.not_eq_true'] at h2; rw [if_neg (fun c => by rw [c.2.1] at h2; cases h2)]
  · rw [if_neg (fun c => by rw [c.2.2] at h3; simp at h3)]
  · simp only [Bool.not_eq_false'] at h h2
    rw [if_pos ⟨h, h2, by simpa using h3⟩]
theorem impl_PageAt.sp {d : Nat} (hd : 6 ≤ d) {x : Dk} (sm : dkSm x) (hb : dkBytes x) (n k : Int) : impl_PageAt.f d (x.1, x.2.1, x.2.2.1, x.2.2.2.1, x.2.2.2.2, n, k) = some (pageAtM x n k) := by
  obtain ⟨d, rfl, _⟩ := dep hd
  rw [impl_PageAt.t_eq]
  dsimp only [impl_PageAt.m]
  have hl := readM_fit (n := n) ⟨sm.1.2, sm.2.1.2⟩
  exact Tells.eq (tc (impl_ReadSec.sp (by omega) sm.fit n) (tc (impl_GetPage.sp (by omega) (by omega) (readM_bytes hb)) (pageAt_tail x n k)))
theorem spec_PageAt.sp {d : Nat} (hd : 4 ≤ d) {x : Dk} (sm : dkSm x) (hb : dkBytes x) (n k : Int) : spec_PageAt.f d (x.1, x.2.1, x.2.2.1, x.2.2.2.1, x.2.2.2.2, n, k) = some (pageAtM x n k) := by
  obtain ⟨d, rfl, _⟩ := dep hd
  rw [spec_PageAt.t_eq]
  dsimp only [spec_PageAt.m]
  have hl := readM_fit (n := n) ⟨sm.1.2, sm.2.1.2⟩
  exact Tells.eq (tc (spec_ReadSec.sp (by omega) sm.fit n) (tc (spec_GetPage.sp (by omega) (by omega) (readM_bytes hb)) (pageAt_tail x n k)))
theorem pageAtM_len (x : Dk) (n k : Int) : (pageAtM x n k).1.length ≤ 240 := by
  unfold pageAtM
  split
  · exact getPageM_len _
  · simp
theorem faultsM_of : ∀ {l : List (Int × Int × Int)} {o : Option (Int × Int × Int)}, (∀ f ∈ l, fOk f = true) → l.Pairwise (fun (a b : Int × Int × Int) => a.1 < b.1) → (∀ y, o = some y → ∀ f ∈ l, y.1 < f.1) → faultsM o l = true
  | [], _, _, _, _ => rfl
  | x :: r, o, h1, h2, h3 => by
    have hr := faultsM_of (l := r) (o := some x) (fun f hf => h1 f (by simp [hf])) (List.pairwise_cons.1 h2).2 (fun y hy f hf => by
      obtain rfl := Option.some.inj hy
      exact (List.pairwise_cons.1 h2).1 f hf)
    simp only [faultsM, h1 x (by simp), Bool.true_and]
    cases o with
    | none => exact hr
    | some y =>
      have := h3 y rfl x (by simp)
      simp only [hr, Bool.and_true, Bool.not_eq_true', decide_eq_false_iff_not]
      omega
def drawnF (l : List (Int × Int × Int)) : Prop := l.length ≤ 4 ∧ faultsM none l = true
theorem spec_l12FaultList.sp {d : Nat} (hd : 4 ≤ d) {b : List Int} {p x : Int} (hc : cur b p) : Tells (spec_l12FaultList.f d (b, p, x)) fun r => drawnF r.1 ∧ cur b r.2.1 := by
  obtain ⟨d, rfl, _⟩ := dep hd
  rw [spec_l12FaultList.t_eq]
  dsimp only [spec_l12FaultList.m]
  refine tb (spec_l1Below.sp (by omega) hc) fun r1 h1 => ?_
  have h4 := h1.2.1 (by omega)
  have ez : r1.1 = ((r1.1.toNat : Nat) : Int) - (0 : Int) := by omega
  have hstart : Tells (iter (spec_l12FaultList.S0 d) rnds ((0 : Int), ((r1.1.toNat : Nat) : Int) - (0 : Int), b, r1.2.1, r1.2.2, ([] : List (Int × Int × Int)))) fun r => drawnF r.1 ∧ cur b r.2.1 := by
    refine loop0 (σ := Int × Int × Int × List (Int × Int × Int)) (spec_l12FaultList.S0 d) r1.1.toNat (fun st i => (st.1, ((r1.1.toNat : Nat) : Int) - i, b, st.2.1, st.2.2.1, st.2.2.2))
      (fun st i => cur b st.2.1 ∧ 0 ≤ st.1 ∧ st.1 ≤ 12 * i ∧ st.2.2.2.length = i ∧ (∀ f ∈ st.2.2.2, fOk f = true) ∧ st.2.2.2.Pairwise (fun (a b : Int × Int × Int) => a.1 < b.1) ∧ ∀ f ∈ st.2.2.2, f.1 < st.1) (fun _ _ r => drawnF r.1 ∧ cur b r.2.1) (0, r1.2.1, r1.2.2, []) (by omega)
      ⟨h1.2.2, by omega, by omega, rfl, fun f hf => (by cases hf), List.Pairwise.nil, fun f hf => by cases hf⟩ ?_ ?_
    · rintro L st ⟨a1, a2, a3, a4, a5, a6, a7⟩
      dsimp only [spec_l12FaultList.S0, spec_l12FaultList.s0]
      have a8 : st.2.2.2.length ≤ 4 := by omega
      exact tn (by omega) (tl ⟨⟨a8, faultsM_of a5 a6 (fun y hy => by cases hy)⟩, a1⟩)
    · rintro L st i ⟨a1, a2, a3, a4, a5, a6, a7⟩ hi ih
      dsimp only [spec_l12FaultList.S0, spec_l12FaultList.s0]
      refine tp (by omega) (tb (spec_l1Below.sp (by omega) a1) fun r2 h2 => tb (spec_l1Below.sp (by omega) h2.2.2) fun r3 h3 => tb (spec_l1Int.sp (by omega) h3.2.2 (by simp)) fun r4 h4 => tb (spec_l1Int.sp (by omega) h4.2 (by simp)) fun r5 h5 => tp (by simp; omega) ?_)
      have b2 := h2.2.1 (by omega)
      have b3 := h3.2.1 (by omega)
      have m4 := h4.1
      have m5 := h5.1
      simp only [List.mem_cons, List.not_mem_nil, or_false] at m4 m5
      rw [wrap_id (x := st.1 + r2.1) (by omega) (by omega), wrap_id (x := st.1 + r2.1 + 1) (by omega) (by omega), wrap_id (x := ((r1.1.toNat : Nat) : Int) - (i : Int) - 1) (by omega) (by omega), show ((r1.1.toNat : Nat) : Int) - (i : Int) - 1 = ((r1.1.toNat : Nat) : Int) - ((i + 1 : Nat) : Int) by omega]
      refine ih (st.1 + r2.1 + 1, r5.2.1, r5.2.2, st.2.2.2 ++ [(st.1 + r2.1, r4.1, r5.1)]) ⟨h5.2, by simp only; omega, by simp only; omega, by simp [a4], fun f hf => ?_, ?_, fun f hf => ?_⟩
      · rcases List.mem_append.1 hf with h | h
        · exact a5 f h
        · obtain rfl := List.mem_singleton.1 h
          unfold fOk
          simp only [Bool.and_eq_true]
          exact ⟨inB_iff.2 ⟨by omega, by omega⟩, inB_iff.2 ⟨by omega, by omega⟩, inB_iff.2 ⟨by omega, by omega⟩⟩
      · rw [List.pairwise_append]
        refine ⟨a6, List.pairwise_singleton _ _, fun f hf g hg => ?_⟩
        obtain rfl := List.mem_singleton.1 hg
        have := a7 f hf
        simp only; omega
      · rcases List.mem_append.1 hf with h | h
        · have := a7 f h
          simp only; omega
        · obtain rfl := List.mem_singleton.1 h
          simp only; omega
  rw [← ez] at hstart
  exact hstart
/-- a disk that was drawn -/
structure dkI (x : Dk) : Prop where
  n : 4 ≤ x.1.length ∧ x.1.length ≤ 7
  s : ∀ y ∈ x.1, y.length ≤ 9 ∧ ∀ z ∈ y, 0 ≤ z ∧ z ≤ 255
  k : x.2.1.length ≤ 60
  w : ∀ w ∈ x.2.1, 0 ≤ w.1 ∧ w.1 < x.1.length ∧ w.2.length ≤ 9 ∧ ∀ z ∈ w.2, 0 ≤ z ∧ z ≤ 255
  f : drawnF x.2.2.2.1
theorem drawnF.cut {l : List (Int × Int × Int)} (h : faultsM none l = true) : ∀ f ∈ l, 0 ≤ f.2.2 := by
  have key : ∀ (l : List (Int × Int × Int)) (o : Option (Int × Int × Int)), faultsM o l = true → ∀ f ∈ l, 0 ≤ f.2.2 := by
    intro l
    induction l with
    | nil => intro _ _ f hf; cases hf
    | cons a r ih =>
      intro o ho f hf
      simp only [faultsM, Bool.and_eq_true] at ho
      obtain ⟨ha, hr⟩ := ho
      rcases List.mem_cons.1 hf with rfl | hf
      · unfold fOk at ha
        simp only [Bool.and_eq_true] at ha
        exact (inB_iff.1 ha.2.2).1
      · cases o with
        | none => exact ih _ hr f hf
        | some y =>
          simp only [Bool.and_eq_true] at hr
          exact ih _ hr.2 f hf
  exact key l none h
theorem small_of {x : Dk} {a b c k : Nat} (h1 : x.1.length ≤ a) (h2 : ∀ y ∈ x.1, y.length ≤ k) (h3 : x.2.1.length ≤ b) (h4 : ∀ w ∈ x.2.1, w.2.length ≤ k) (h5 : x.2.2.2.1.length ≤ c) (ha : a ≤ 1000) (hb : b ≤ 1000) (hc : c ≤ 1000) (hk : k ≤ 1000) : dkSm x := by
  refine ⟨⟨by omega, fun y hy => by have := h2 y hy; omega⟩, ⟨by omega, fun y hy => by have := h4 y hy; omega⟩, by omega, ?_⟩
  unfold dkW
  have g1 := wSum_le (w := List.length) h2
  have g2 := wSum_le (w := ww) (k := k + 1) (l := x.2.1) fun y hy => by have := h4 y hy; unfold ww; omega
  have g3 := sum_three x.2.2.2.1
  have m1 : x.1.length * k ≤ 1000 * 1000 := Nat.mul_le_mul (by omega) hk
  have m2 : x.2.1.length * (k + 1) ≤ 1000 * 1001 := Nat.mul_le_mul (by omega) (by omega)
  omega
theorem dkI.sm {x : Dk} (h : dkI x) : dkSm x := small_of (a := 7) (b := 60) (c := 4) (k := 9) h.n.2 (fun y hy => (h.s y hy).1) h.k (fun w hw => (h.w w hw).2.2.1) h.f.1 (by omega) (by omega) (by omega) (by omega)
theorem dkI.good {x : Dk} (h : dkI x) (hp : -1000000000 ≤ x.2.2.1 ∧ x.2.2.1 ≤ 1000000000) : dkGood x :=
  ⟨h.sm, fun w hw => ⟨(h.w w hw).1, (h.w w hw).2.1, by have := (h.w w hw).2.2.1; omega⟩, drawnF.cut h.f.2, hp.2, hp.1⟩
theorem loseM_I {x : Dk} (h : dkI x) {m c : Int} : dkI (loseM x m c) where
  n := by unfold loseM; rw [applyW_len]; exact h.n
  s := applyW_all (P := fun y => y.length ≤ 9 ∧ ∀ z ∈ y, 0 ≤ z ∧ z ≤ 255) h.s (by
    intro w hw
    unfold cutLast at hw
    split at hw
    · cases hw
    · rename_i v hv
      have hm := keptW_mem (List.mem_of_getLast? hv)
      rcases List.mem_append.1 hw with h1 | h1
      · have := h.w w (keptW_mem (List.dropLast_subset _ h1))
        exact this.2.2
      · obtain rfl := List.mem_singleton.1 h1
        have := h.w v hm
        refine ⟨?_, fun z hz => this.2.2.2 z (List.mem_of_mem_take hz)⟩
        simp only [cutW, List.length_take]
        have := this.2.2.1
        omega)
  k := Nat.zero_le _
  w := fun w hw => by cases hw
  f := h.f
theorem pulsed_I {x : Dk} (h : dkI x) : dkI (pulsed x) := ⟨h.n, h.s, h.k, h.w, h.f⟩
theorem flushM_I {x : Dk} (h : dkI x) : dkI (flushM x).2 := by
  unfold flushM
  split
  · exact h
  · split
    · exact h
    · split
      · exact loseM_I (pulsed_I h)
      · exact ⟨by rw [applyW_len]; exact h.n, applyW_all (P := fun y => y.length ≤ 9 ∧ ∀ z ∈ y, 0 ≤ z ∧ z ≤ 255) h.s fun w hw => (h.w w hw).2.2, Nat.zero_le _, fun w hw => (by cases hw), h.f⟩
theorem flushM_p {x : Dk} {k : Int} (h : 0 ≤ x.2.2.1 ∧ x.2.2.1 ≤ k) : 0 ≤ (flushM x).2.2.2.1 ∧ (flushM x).2.2.2.1 ≤ k + 1 := by
  unfold flushM
  split
  · simp only; omega
  · split
    · simp only; omega
    · split
      · simp only [loseM, pulsed]; omega
      · simp only; omega
theorem wrote_I {x : Dk} (h : dkI x) {n : Int} {b : List Int} (hk : ¬ (x.2.1.length : Int) ≥ 60) (hn : 0 ≤ n ∧ n < x.1.length) (hb : b.length ≤ 9 ∧ ∀ z ∈ b, 0 ≤ z ∧ z ≤ 255) : dkI (wrote x n b) where
  n := h.n
  s := h.s
  k := by unfold wrote; simp only [List.length_append, List.length_singleton]; omega
  w := fun w hw => by
    rcases List.mem_append.1 hw with h1 | h1
    · exact h.w w h1
    · obtain rfl := List.mem_singleton.1 h1
      exact ⟨hn.1, hn.2, hb⟩
  f := h.f
theorem writeM_I {x : Dk} (h : dkI x) {n : Int} {b : List Int} (hn : 0 ≤ n ∧ n < x.1.length) (hb : b.length ≤ 9 ∧ ∀ z ∈ b, 0 ≤ z ∧ z ≤ 255) : dkI (writeM x n b).2 := by
  unfold writeM
  split
  · exact h
  · split
    · exact h
    · split
      · exact h
      · rename_i hk
        split
        · exact loseM_I (wrote_I h hk hn hb)
        · exact wrote_I h hk hn hb
theorem writeM_p {x : Dk} {n k : Int} {b : List Int} (h : 0 ≤ x.2.2.1 ∧ x.2.2.1 ≤ k) : 0 ≤ (writeM x n b).2.2.2.1 ∧ (writeM x n b).2.2.2.1 ≤ k + 1 := by
  unfold writeM
  split
  · simp only; omega
  · split
    · simp only; omega
    · split
      · simp only; omega
      · split
        · simp only [loseM, wrote]; omega
        · simp only [wrote]; omega
theorem newDk_I {n : Int} {fs : List (Int × Int × Int)} (hn : 4 ≤ n ∧ n ≤ 7) (hf : drawnF fs) : dkI (newDk n fs) ∧ (newDk n fs).2.2.1 = 0 := by
  unfold newDk
  have h1 : faultsOkM fs = true := by
    unfold faultsOkM
    rw [hf.2, decide_eq_true (by have := hf.1; omega)]; rfl
  rw [if_pos ⟨inB_iff.2 ⟨by omega, by omega⟩, h1⟩]
  exact ⟨⟨by simp; omega, fun y hy => by rw [(List.mem_replicate.1 hy).2]; simp, by simp, fun w hw => (by cases hw), hf⟩, rfl⟩
def curOf (r : (List (List Int)) × (List (Int × (List Int))) × Int × (List (Int × Int × Int)) × Bool × Int × Int) : Dk := (r.1, r.2.1, r.2.2.1, r.2.2.2.1, r.2.2.2.2.1)
theorem spec_l12Draw.sp {d : Nat} (hd : 5 ≤ d) {b : List Int} {p x : Int} (hc : cur b p) : Tells (spec_l12Draw.f d (b, p, x)) fun r => dkI (curOf r) ∧ cur b r.2.2.2.2.2.1 := by
  obtain ⟨d, rfl, _⟩ := dep hd
  rw [spec_l12Draw.t_eq]
  dsimp only [spec_l12Draw.m]
  refine tb (spec_l1Below.sp (by omega) hc) fun r1 h1 => tb (spec_l12FaultList.sp (by omega) h1.2.2) fun r2 h2 => ?_
  have b1 := h1.2.1 (by omega)
  rw [wrap_id (x := 4 + r1.1) (by omega) (by omega)]
  obtain ⟨i0, p0⟩ := newDk_I (n := 4 + r1.1) (fs := r2.1) ⟨by omega, by omega⟩ h2.1
  refine tc (spec_DiskNew.sp (by omega) (by have := h2.1.1; omega)) (tb (spec_l1Below.sp (by omega) h2.2) fun r4 h4 => ?_)
  have b4 := h4.2.1 (by omega)
  revert i0 p0
  generalize newDk (4 + r1.1) r2.1 = D
  intro i0 p0
  have ez : r4.1 = ((r4.1.toNat : Nat) : Int) - (0 : Int) := by omega
  have hstart : Tells (iter (spec_l12Draw.S0 d) rnds (((r4.1.toNat : Nat) : Int) - (0 : Int), b, r4.2.1, r4.2.2, ([] : List (List Int)), ([] : List (Int × (List Int))), (0 : Int), ([] : List (Int × Int × Int)), false, D.1, D.2.1, D.2.2.1, D.2.2.2.1, D.2.2.2.2)) fun r => dkI (curOf r) ∧ cur b r.2.2.2.2.2.1 := by
    refine loop0 (σ := Int × Int × Dk) (spec_l12Draw.S0 d) r4.1.toNat (fun st i => (((r4.1.toNat : Nat) : Int) - i, b, st.1, st.2.1, ([] : List (List Int)), ([] : List (Int × (List Int))), (0 : Int), ([] : List (Int × Int × Int)), false, st.2.2.1, st.2.2.2.1, st.2.2.2.2.1, st.2.2.2.2.2.1, st.2.2.2.2.2.2))
      (fun st i => cur b st.1 ∧ dkI st.2.2 ∧ 0 ≤ st.2.2.2.2.1 ∧ st.2.2.2.2.1 ≤ i) (fun _ _ r => dkI (curOf r) ∧ cur b r.2.2.2.2.2.1) (r4.2.1, r4.2.2, D) (by omega) ⟨h4.2.2, i0, by simp only [p0]; omega, by simp only [p0]; omega⟩ ?_ ?_
    · rintro L st ⟨a1, a2, a3, a4⟩
      dsimp only [spec_l12Draw.S0, spec_l12Draw.s0]
      exact tn (by omega) (tl ⟨a2, a1⟩)
    · rintro L ⟨sp, sx, X⟩ i ⟨a1, a2, a3, a4⟩ hi ih
      simp only at a1 a2 a3 a4 ih ⊢
      dsimp only [spec_l12Draw.S0, spec_l12Draw.s0]
      rw [wrap_id (x := ((r4.1.toNat : Nat) : Int) - (i : Int) - 1) (by omega) (by omega), show ((r4.1.toNat : Nat) : Int) - (i : Int) - 1 = ((r4.1.toNat : Nat) : Int) - ((i + 1 : Nat) : Int) by omega]
      refine tp (by omega) (tb (spec_l1Below.sp (by omega) a1) fun r5 h5 => tbif (fun _ => ?_) fun _ => tbif (fun _ => ?_) fun _ => ?_)
      · refine tc (spec_l12Flush.sp (by omega) (a2.good ⟨by omega, by omega⟩)) ?_
        have hp := flushM_p (x := X) (k := (i : Int)) ⟨a3, a4⟩
        exact ih (r5.2.1, r5.2.2, (flushM X).2) ⟨h5.2.2, flushM_I a2, hp.1, by simp only; omega⟩
      · exact ih (r5.2.1, r5.2.2, (X.1, X.2.1, X.2.2.1, X.2.2.2.1, false)) ⟨h5.2.2, ⟨a2.n, a2.s, a2.k, a2.w, a2.f⟩, a3, by simp only; omega⟩
      · refine tb (spec_l1Below.sp (by omega) h5.2.2) fun r7 h7 => tb (spec_l1Some.sp (by omega) h7.2.2) fun r8 h8 => ?_
        have hn := a2.n
        have b7 := h7.2.1 (by omega)
        refine tc (spec_l12Write.sp (by omega) (a2.good ⟨by omega, by omega⟩) (inB_iff.2 ⟨h7.1, by omega⟩) (by have := h8.1; omega)) ?_
        have hp := writeM_p (x := X) (n := r7.1) (b := r8.1) (k := (i : Int)) ⟨a3, a4⟩
        exact ih (r8.2.1, r8.2.2, (writeM X r7.1 r8.1).2) ⟨h8.2.2, writeM_I a2 ⟨h7.1, b7⟩ ⟨h8.1, h8.2.1⟩, hp.1, by simp only; omega⟩
  rw [← ez] at hstart
  exact hstart
/-- a disk that was drawn, and bent -/
structure dkV (x : Dk) : Prop where
  n : x.1.length ≤ 7
  s : ∀ y ∈ x.1, y.length ≤ 300 ∧ ∀ z ∈ y, 0 ≤ z ∧ z ≤ 255
  k : x.2.1.length ≤ 61
  w : ∀ w ∈ x.2.1, w.2.length ≤ 300 ∧ ∀ z ∈ w.2, 0 ≤ z ∧ z ≤ 255
  f : x.2.2.2.1.length ≤ 5
theorem dkV.sm {x : Dk} (h : dkV x) : dkSm x := small_of (a := 7) (b := 61) (c := 5) (k := 300) h.n (fun y hy => (h.s y hy).1) h.k (fun w hw => (h.w w hw).1) h.f (by omega) (by omega) (by omega) (by omega)
theorem dkV.bytes {x : Dk} (h : dkV x) : dkBytes x := ⟨fun y hy => (h.s y hy).2, fun w hw => (h.w w hw).2⟩
theorem dkI.v {x : Dk} (h : dkI x) : dkV x := ⟨h.n.2, fun y hy => ⟨by have := (h.s y hy).1; omega, (h.s y hy).2⟩, by have := h.k; omega, fun w hw => ⟨by have := (h.w w hw).2.2.1; omega, (h.w w hw).2.2.2⟩, by have := h.f.1; omega⟩
theorem spec_l12N.sp {d : Nat} (hd : 4 ≤ d) {b : List Int} {p x : Int} (hc : cur b p) : Tells (spec_l12N.f d (b, p, x)) fun r => -1 ≤ r.1 ∧ r.1 ≤ 48 ∧ cur b r.2.1 := by
  obtain ⟨d, rfl, _⟩ := dep hd
  rw [spec_l12N.t_eq]
  dsimp only [spec_l12N.m]
  refine tb (spec_l1Int.sp (by omega) hc (by simp)) fun r1 h1 => tl ?_
  have m := h1.1
  simp only [List.mem_cons, List.not_mem_nil, or_false] at m
  exact ⟨by simp only; omega, by simp only; omega, h1.2⟩
theorem spec_PutSum.sp {d : Nat} (hd : 2 ≤ d) {l : List Int} (hl : l.length ≤ 100000000000) (hb : ∀ b ∈ l, 0 ≤ b ∧ b ≤ 255) : spec_PutSum.f d l = some (l ++ sum4 (crcM l)) := by
  obtain ⟨d, rfl, _⟩ := dep hd
  rw [spec_PutSum.t_eq]
  dsimp only [spec_PutSum.m]
  refine Tells.eq (tc (spec_Crc.sp (by omega) (by omega) hb) (tp ?_ (tp (by decide) (tp (by decide) (tp (by decide) (tp ?_ (tl ?_)))))))
  · simp only [List.length_nil]; omega
  · simp only [List.length_cons, List.length_nil, List.nil_append]; omega
  · rw [shr8 _ 24 3 rfl (by omega), shr8 _ 16 2 rfl (by omega), shr8 _ 8 1 rfl (by omega)]
    simp only [IntKind.wrap_u8, sum4, List.nil_append]
    rfl
theorem spec_PutU.sp {d : Nat} (hd : 1 ≤ d) {l : List Int} {n : Int} (hl : l.length ≤ 100000000000) : spec_PutU.f d (l, n) = some (l ++ uM n) := by
  obtain ⟨d, rfl, _⟩ := dep hd
  rw [spec_PutU.t_eq]
  dsimp only [spec_PutU.m]
  have last : ∀ (m : Int) (s : List Int) k, 0 ≤ m → m ≤ 127 → s.length ≤ 100000000010 → Tells (iter (spec_PutU.S0 d) (k + 1) (m, s)) (· = s ++ [m]) := fun m s k h0 h1 h2 => by
    simp only [iter]
    dsimp only [spec_PutU.S0, spec_PutU.s0]
    rw [u8_id h0 (by omega)]
    exact tn (by omega) (tp (by simp; omega) (tl rfl))
  have more : ∀ (m : Int) (s : List Int) k Q, 127 < m → m ≤ 1000000 → s.length ≤ 100000000010 → Tells (iter (spec_PutU.S0 d) k (m / 128, s ++ [m % 128 + 128])) Q → Tells (iter (spec_PutU.S0 d) (k + 1) (m, s)) Q := fun m s k Q h0 h1 h2 ih => by
    simp only [iter]
    dsimp only [spec_PutU.S0, spec_PutU.s0]
    have e7 : Int.fdiv m (2 ^ (min (Int.toNat (7 : Int)) (IntKind.bits IntKind.i64))) = m / 128 := by
      rw [show min (Int.toNat (7 : Int)) (IntKind.bits IntKind.i64) = 7 from rfl, show (2 : Int) ^ 7 = 128 from rfl, Int.fdiv_eq_ediv_of_nonneg _ (by omega)]
    rw [show IntKind.wrap IntKind.i64 ((BitVec.ofInt (IntKind.bits IntKind.i64) m &&& BitVec.ofInt (IntKind.bits IntKind.i64) (127 : Int)).toNat : Int) = m % 128 from and127 m (by omega) (by omega),
      show IntKind.wrap IntKind.i64 ((BitVec.ofInt (IntKind.bits IntKind.i64) (m % 128) ||| BitVec.ofInt (IntKind.bits IntKind.i64) (128 : Int)).toNat : Int) = m % 128 + 128 from or128 _ (by omega) (by omega), u8_id (by omega) (by omega), e7]
    exact tp (by omega) (tp (by simp; omega) (tp (by decide) ih))
  have all : ∀ m : Int, 0 ≤ m → m ≤ 1000000 → Tells (iter (spec_PutU.S0 d) rnds (m, [] ++ l)) (· = l ++ groups m) := fun m h0 h1 => by
    rw [List.nil_append]
    obtain ⟨k, hk⟩ : ∃ k, rnds = k + 1 + 1 + 1 := ⟨rnds - 3, by have := rnds_gt (n := 3) (by omega); omega⟩
    rw [hk]
    unfold groups
    by_cases c : m > 127
    · rw [if_pos c]
      refine more _ _ _ _ c h1 (by omega) ?_
      by_cases c2 : m / 128 > 127
      · rw [if_pos c2]
        refine more _ _ _ _ c2 (by omega) (by simp; omega) ?_
        have e : m / 128 / 128 = m / 16384 := by omega
        rw [e]
        exact (last _ _ _ (by omega) (by omega) (by simp; omega)).mono fun r hr => by rw [hr]; simp
      · rw [if_neg c2]
        exact (last _ _ _ (by omega) (by omega) (by simp; omega)).mono fun r hr => by rw [hr]; simp
    · rw [if_neg c]
      exact last _ _ _ (by omega) (by omega) (by omega)
  unfold uM clampU
  refine Tells.eq (tp (by simp only [List.length_nil]; omega) (tif (fun c => tn (by decide) ?_) fun c => tif (fun c2 => ?_) fun c2 => ?_))
  · rw [if_neg (by omega), if_pos c]; exact all _ (by omega) (by omega)
  · rw [if_pos c2]; exact all _ (by omega) (by omega)
  · rw [if_neg c2, if_neg c]; exact all _ (by omega) (by omega)
theorem spec_PutText.sp {d : Nat} (hd : 2 ≤ d) {l : List Int} {s : ByteArray} (hl : l.length ≤ 100000000000) (hs : s.size ≤ 1000000000) : spec_PutText.f d (l, s) = some (l ++ txtM s) := by
  obtain ⟨d, rfl, _⟩ := dep hd
  rw [spec_PutText.t_eq]
  dsimp only [spec_PutText.m]
  have := uM_len s.size
  refine Tells.eq (tc (spec_PutU.sp (by omega) hl) (tp ?_ (tl ?_)))
  · have h2 : (strNums s).length = s.size := by simp [strNums]
    rw [h2, List.length_append]; omega
  · unfold txtM
    rw [List.append_assoc]
theorem spec_PutPage.sp {d : Nat} (hd : 3 ≤ d) {n : Int} {l : List Int} (hl : l.length ≤ 1000000000) (hb : ∀ b ∈ l, 0 ≤ b ∧ b ≤ 255) : spec_PutPage.f d (n, l) = some (pageM n l) := by
  obtain ⟨d, rfl, _⟩ := dep hd
  rw [spec_PutPage.t_eq]
  dsimp only [spec_PutPage.m]
  unfold pageM
  refine Tells.eq (tc (spec_l1In.sp (by omega) _ _ _) (tbif (fun c => tl ?_) fun c => ?_))
  · simp only [Bool.not_eq_true'] at c; rw [if_neg (by rw [c]; simp)]
  simp only [Bool.not_eq_false'] at c
  refine tif (fun c2 => tl ?_) fun c2 => ?_
  · rw [if_neg (fun h => by have := h.2; omega)]
  rw [if_pos ⟨c, by omega⟩]
  have e := bytesOf_strOf l hb
  have e2 : (strOfNums l).size = l.length := strOfNums_size l
  have hp := spec_PutText.sp (d := d) (by omega) (l := [] ++ uM n) (s := numsStr l) (by have := uM_len n; simp; omega) (by rw [e2]; omega)
  refine tc (spec_PutU.sp (by omega) (by simp)) (tc hp (tc (spec_PutSum.sp (by omega) ?_ ?_) (tl ?_)))
  · have h1 := uM_len n
    have h3 := txtM_len (numsStr l)
    rw [e2] at h3
    simp only [List.length_append, List.length_nil]; omega
  · exact app_bytes (app_bytes (by simp) (uM_bytes n)) (txtM_bytes _)
  · unfold pageBody txtM
    rw [e2, e]
    simp
theorem pageM_bytes (n : Int) {l : List Int} (hb : ∀ b ∈ l, 0 ≤ b ∧ b ≤ 255) : ∀ x ∈ pageM n l, 0 ≤ x ∧ x ≤ 255 := by
  unfold pageM
  split
  · exact app_bytes (pageBody_bytes _ _ hb) (sum4_bytes _)
  · intro x hx; cases hx
theorem spec_l1Bend.sp {d : Nat} (hd : 4 ≤ d) {b : List Int} {p x : Int} {l : List Int} (hc : cur b p) (hl : l.length ≤ 1000) (hb : ∀ y ∈ l, 0 ≤ y ∧ y ≤ 255) : Tells (spec_l1Bend.f d (b, p, x, l)) fun r => r.1.length ≤ l.length + 1 ∧ (∀ y ∈ r.1, 0 ≤ y ∧ y ≤ 255) ∧ cur b r.2.1 := by
  obtain ⟨d, rfl, _⟩ := dep hd
  rw [spec_l1Bend.t_eq]
  dsimp only [spec_l1Bend.m]
  refine tbif (fun _ => tl ⟨Nat.le_succ _, hb, hc⟩) fun hne => ?_
  have hpos : 0 < l.length := by
    cases l with
    | nil => simp at hne
    | cons a l => simp
  refine tb (spec_l1Below.sp (by omega) hc) fun r1 h1 => tbif (fun _ => ?_) fun _ => tbif (fun _ => ?_) fun _ => tbif (fun _ => ?_) fun _ => tl ⟨Nat.le_succ _, hb, h1.2.2⟩
  · refine tb (spec_l1Below.sp (by omega) h1.2.2) fun r2 h2 => tb (spec_l1Int.sp (by omega) h2.2.2 (by simp)) fun r3 h3 => ?_
    have b2 := h2.2.1 (by omega)
    refine tt (by rw [decide_eq_true h2.1, decide_eq_true b2]; rfl) (tl ⟨?_, fun y hy => ?_, h3.2⟩)
    · simp only [List.length_set]; omega
    · rcases List.mem_or_eq_of_mem_set hy with h | h
      · exact hb y h
      · rw [h]; exact u8_bd _
  · refine tp (by simp only [List.length_cons, List.length_nil]; omega) (tl ⟨by simp, fun y hy => ?_, h1.2.2⟩)
    rcases List.mem_append.1 hy with h | h
    · exact hb y h
    · obtain rfl := List.mem_singleton.1 h; omega
  · refine tb (spec_l1Below.sp (by omega) h1.2.2) fun r4 h4 => ?_
    have b4 := h4.2.1 (by omega)
    refine tt (by rw [decide_eq_true (by omega), decide_eq_true h4.1, decide_eq_true (by omega)]; rfl) (tl ⟨?_, fun y hy => hb y (List.mem_of_mem_take hy), h4.2.2⟩)
    simp only [List.length_take]; omega
theorem spec_DrawGetPage.sp {d : Nat} (hd : 5 ≤ d) {b : List Int} (hl : b.length ≤ 1048576) : Tells (spec_DrawGetPage.f d b) fun r => r.length ≤ 300 ∧ ∀ y ∈ r, 0 ≤ y ∧ y ≤ 255 := by
  obtain ⟨d, rfl, _⟩ := dep hd
  rw [spec_DrawGetPage.t_eq]
  dsimp only [spec_DrawGetPage.m]
  refine tb (spec_l1New.sp (by omega) hl) fun r1 h1 => ?_
  rw [h1.1]
  refine tb (spec_l1Below.sp (by omega) h1.2) fun r2 h2 => tb (spec_l1Some.sp (by omega) h2.2.2) fun r3 h3 => tc (spec_PutPage.sp (by omega) (by have := h3.1; omega) h3.2.1) (tb (spec_l1Bend.sp (by omega) h3.2.2 (by have := pageM_len (IntKind.wrap IntKind.i64 (1 + r2.1)) r3.1; omega) (pageM_bytes _ h3.2.1)) fun r5 h5 => tl ⟨?_, h5.2.1⟩)
  have := pageM_len (IntKind.wrap IntKind.i64 (1 + r2.1)) r3.1
  have := h5.1
  omega
theorem spec_DrawPageAt.sp {d : Nat} (hd : 6 ≤ d) {b : List Int} (hl : b.length ≤ 1048576) : Tells (spec_DrawPageAt.f d b) fun r => dkV (r.1, r.2.1, r.2.2.1, r.2.2.2.1, r.2.2.2.2.1) := by
  obtain ⟨d, rfl, _⟩ := dep hd
  rw [spec_DrawPageAt.t_eq]
  dsimp only [spec_DrawPageAt.m]
  refine tb (spec_l1New.sp (by omega) hl) fun r1 h1 => ?_
  rw [h1.1]
  refine tb (spec_l12Draw.sp (by omega) h1.2) fun r2 h2 => tb (spec_l1Below.sp (by omega) h2.2) fun r3 h3 => tb (spec_l1Below.sp (by omega) h3.2.2) fun r4 h4 => tb (spec_l1Some.sp (by omega) h4.2.2) fun r5 h5 => tc (spec_PutPage.sp (by omega) (by have := h5.1; omega) h5.2.1) (tb (spec_l1Bend.sp (by omega) h5.2.2 (by have := pageM_len (IntKind.wrap IntKind.i64 (1 + r4.1)) r5.1; omega) (pageM_bytes _ h5.2.1)) fun r7 h7 => ?_)
  have hv := h2.1.v
  have hn : 4 ≤ r2.1.length := h2.1.n.1
  have b3 := h3.2.1 (by omega)
  have hv2 : dkV (List.set r2.1 (Int.toNat r3.1) r7.1, r2.2.1, r2.2.2.1, r2.2.2.2.1, r2.2.2.2.2.1) := by
    refine ⟨by show (List.set r2.1 _ _).length ≤ 7; rw [List.length_set]; exact hv.n, fun y hy => ?_, hv.k, hv.w, hv.f⟩
    rcases List.mem_or_eq_of_mem_set hy with h | h
    · exact hv.s y h
    · rw [h]
      refine ⟨?_, h7.2.1⟩
      have := pageM_len (IntKind.wrap IntKind.i64 (1 + r4.1)) r5.1
      have := h7.1
      omega
  refine tt (by rw [decide_eq_true h3.1, decide_eq_true b3]; rfl) (tb (spec_l1Once.sp (by omega) h7.2.2) fun r8 h8 => tbif (fun _ => ?_) fun _ => ?_)
  · exact tb (spec_l12N.sp (by omega) h8) fun r9 h9 => tb (spec_l1Below.sp (by omega) h9.2.2) fun r10 h10 => tl hv2
  · exact tb (spec_l1Below.sp (by omega) h8) fun r11 h11 => tl hv2
theorem pageOf_cases (body : List Int) (ok : Bool) : pageOf body ok = (0, [], false) ∨ ∃ n c s c2, getUM body = some (n, c) ∧ getTextM (body.drop c) = some (s, c2) ∧ ok = true ∧ (c + c2 = body.length ∧ inB n 1 2 = true ∧ s.size ≤ 240) ∧ pageOf body ok = (n, strNums s, true) := by
  cases hu : getUM body with
  | none => exact .inl (pageOf_none hu)
  | some p =>
    obtain ⟨n, c⟩ := p
    cases ht : getTextM (body.drop c) with
    | none => exact .inl (pageOf_no hu ht)
    | some q =>
      obtain ⟨s, c2⟩ := q
      rw [pageOf_some hu ht]
      by_cases hc : ok = true ∧ c + c2 = body.length ∧ inB n 1 2 = true ∧ s.size ≤ 240
      · rw [if_pos hc]
        exact .inr ⟨n, c, s, c2, rfl, ht, hc.1, hc.2, rfl⟩
      · rw [if_neg hc]
        exact .inl rfl
theorem getPage_false {b : List Int} (h : (getPageM b).2.2 = false) : getPageM b = (0, [], false) := by
  unfold getPageM at h ⊢
  rcases pageOf_cases (getSumM b).1 (getSumM b).2 with e | ⟨n, c, s, c2, _, _, _, _, e⟩
  · exact e
  · rw [e] at h; cases h
theorem getPage_true {b : List Int} (hb : ∀ x ∈ b, 0 ≤ x ∧ x ≤ 255) (h : (getPageM b).2.2 = true) : pageM (getPageM b).1 (getPageM b).2.1 = b := by
  unfold getPageM at h ⊢
  rcases pageOf_cases (getSumM b).1 (getSumM b).2 with e | ⟨n, c, s, c2, hu, ht, hok, hc, e⟩
  · rw [e] at h; cases h
  · rw [e]
    have hS : getSumM b = ((getSumM b).1, true) := by rw [← hok]
    exact (page_back hb hS hu ht).2 hc
theorem laws_FnPagesRead.pure {d : Nat} (hd : 7 ≤ d) {b : List Int} (h0 : okV (.row (.one (.int .u8))) b) : laws_FnPagesRead.f d b = some true := by
  obtain ⟨d, rfl, _⟩ := dep hd
  rw [laws_FnPagesRead.t_eq]
  dsimp only [laws_FnPagesRead.m]
  refine Tells.eq (tc (laws_big.sp (by omega) b) (tif (fun _ => tl rfl) fun h => ?_))
  have hl : b.length ≤ 1048576 := by omega
  refine tb (spec_DrawGetPage.sp (by omega) hl) fun r2 h2 => ?_
  refine tc (impl_GetPage.sp (by omega) (by omega) h2.2) (tc (spec_GetPage.sp (by omega) (by omega) h2.2) (tb (spec_DrawPageAt.sp (by omega) hl) fun r5 h5 => ?_))
  have sm := h5.sm
  have lp := pageAtM_len (r5.1, r5.2.1, r5.2.2.1, r5.2.2.2.1, r5.2.2.2.2.1) r5.2.2.2.2.2.1 r5.2.2.2.2.2.2
  refine tc (impl_PageAt.sp (x := (r5.1, r5.2.1, r5.2.2.1, r5.2.2.2.1, r5.2.2.2.2.1)) (by omega) sm h5.bytes _ _) (tc (spec_PageAt.sp (x := (r5.1, r5.2.1, r5.2.2.1, r5.2.2.2.1, r5.2.2.2.2.1)) (by omega) sm h5.bytes _ _) ?_)
  refine tt (by simp) (tt (by simp) (tc (laws_sameBytes.self (by omega) (by omega)) (tt rfl ?_)))
  have gl := getPageM_len r2
  refine tbif (fun c => ?_) fun c => ?_
  · have e := getPage_false (b := r2) (by simpa using c)
    rw [e]
    exact tt rfl (tt rfl (tl rfl))
  · have c' : (getPageM r2).2.2 = true := by simpa using c
    have e := getPage_true h2.2 c'
    have hbl : ∀ y ∈ (getPageM r2).2.1, 0 ≤ y ∧ y ≤ 255 := by
      unfold getPageM pageOf
      split
      · split
        · split
          · exact bytesOf_bytes _
          · intro y hy; cases hy
        · intro y hy; cases hy
      · intro y hy; cases hy
    refine tt c' (tc (impl_PutPage.sp (by omega) (by omega) hbl) ?_)
    rw [e]
    exact tc (laws_sameBytes.self (by omega) (by omega)) (tl rfl)
end Go.PV.T
