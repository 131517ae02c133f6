/- Functions of the program by their own lists and numbers. No condition beyond those in each statement. -/
import Derived.Test.YtipehkeabnfngaaDoorPvCHx3
import Derived.Lib.Join
import Derived.KernelRfl
set_option linter.unusedVariables false
set_option linter.unusedSimpArgs false
set_option linter.unusedVariables false
namespace Go.PV.T
open Go Go.Proofs
theorem in_def (a lo hi : Int) : (bif decide (a ≥ lo) then some (decide (a ≤ hi)) else some false) = some (inB a lo hi) := by
  by_cases h : lo ≤ a <;> simp [inB, h]
theorem impl_in.sp {d : Nat} (hd : 1 ≤ d) (a lo hi : Int) : impl_in.f d (a, lo, hi) = some (inB a lo hi) := by
  obtain ⟨d, rfl, hd⟩ := dep hd
  rw [impl_in.t_eq]
  exact in_def a lo hi
theorem spec_l1In.sp {d : Nat} (hd : 1 ≤ d) (a lo hi : Int) : spec_l1In.f d (a, lo, hi) = some (inB a lo hi) := by
  obtain ⟨d, rfl, hd⟩ := dep hd
  rw [spec_l1In.t_eq]
  exact in_def a lo hi
abbrev Dk := (List (List Int)) × (List (Int × (List Int))) × Int × (List (Int × Int × Int)) × Bool
/-- a disk's rows are no longer than memory holds -/
def dkFit (x : Dk) : Prop := (x.1.length ≤ 140737488351232 ∧ ∀ y ∈ x.1, y.length ≤ 140737488351232) ∧ (x.2.1.length ≤ 140737488351232 ∧ ∀ y ∈ x.2.1, y.2.length ≤ 140737488351232) ∧ x.2.2.2.1.length ≤ 140737488351232
def ww (x : Int × List Int) : Nat := x.2.length + 1
def dkW (x : Dk) : Nat := wSum List.length x.1 + wSum ww x.2.1 + wSum (fun _ : Int × Int × Int => 3) x.2.2.2.1
def dkOk (x : Dk) : Prop := okV (.row (.one (.row (.one (.int .u8))))) x.1 ∧ okV (.row (.cons (.int .i64) (.one (.row (.one (.int .u8)))))) x.2.1 ∧ okV (.row (.cons (.int .i64) (.cons (.int .i64) (.one (.int .i64))))) x.2.2.2.1
theorem okRow_len {cs : SS} {l : List cs.T} (h : okV (.row cs) l) : l.length ≤ 140737488351232 := Nat.le_trans (Nat.le_mul_of_pos_right _ (SS.size_pos cs)) h.1
theorem dkOk.fit {x : Dk} (h : dkOk x) : dkFit x :=
  ⟨⟨okRow_len h.1, fun y hy => okRow_len (h.1.2 y hy)⟩, ⟨okRow_len (cs := .cons (.int .i64) (.one (.row (.one (.int .u8))))) h.2.1, fun y hy => okRow_len (h.2.1.2 y hy).2⟩, okRow_len (cs := .cons (.int .i64) (.cons (.int .i64) (.one (.int .i64)))) h.2.2⟩
/-- no more than a million -/
def dkSm (x : Dk) : Prop := (x.1.length ≤ 1048576 ∧ ∀ y ∈ x.1, y.length ≤ 1048576) ∧ (x.2.1.length ≤ 1048576 ∧ ∀ y ∈ x.2.1, y.2.length ≤ 1048576) ∧ x.2.2.2.1.length ≤ 1048576 ∧ dkW x ≤ 10000000
theorem dkSm.fit {x : Dk} (h : dkSm x) : dkFit x := ⟨⟨by have := h.1.1; omega, fun y hy => by have := h.1.2 y hy; omega⟩, ⟨by have := h.2.1.1; omega, fun y hy => by have := h.2.1.2 y hy; omega⟩, by have := h.2.2.1; omega⟩
/-- rows and numbers of a size that may be marked -/
def dkB (x : Dk) : Prop := (x.1.length ≤ 1048577 ∧ ∀ y ∈ x.1, y.length ≤ 1048577) ∧ (x.2.1.length ≤ 1048577 ∧ ∀ y ∈ x.2.1, y.2.length ≤ 1048577) ∧ x.2.2.2.1.length ≤ 1048577
theorem dkB.fit {x : Dk} (h : dkB x) : dkFit x := ⟨⟨by have := h.1.1; omega, fun y hy => by have := h.1.2 y hy; omega⟩, ⟨by have := h.2.1.1; omega, fun y hy => by have := h.2.1.2 y hy; omega⟩, by have := h.2.2; omega⟩
theorem and_le_nat (x : Int) (n : Nat) (hn : n < 2 ^ 62) : 0 ≤ Go.bits .and .i64 x (n : Int) ∧ Go.bits .and .i64 x (n : Int) ≤ n := by
  have e : (BitVec.ofInt IntKind.i64.bits ((n : Nat) : Int)).toNat = n := by
    rw [BitVec.ofInt_natCast, BitVec.toNat_ofNat]
    exact Nat.mod_eq_of_lt (Nat.lt_of_lt_of_le hn (Nat.pow_le_pow_right (by decide) (by decide)))
  have h : (BitVec.ofInt IntKind.i64.bits x &&& BitVec.ofInt IntKind.i64.bits ((n : Nat) : Int)).toNat ≤ n := by
    rw [BitVec.toNat_and, e]
    exact Nat.and_le_right
  have g : Go.bits .and .i64 x (n : Int) = IntKind.i64.wrap ((BitVec.ofInt IntKind.i64.bits x &&& BitVec.ofInt IntKind.i64.bits ((n : Nat) : Int)).toNat : Int) := rfl
  rw [g, IntKind.wrap_i64]
  omega
theorem low_byte (x : Int) : 0 ≤ IntKind.wrap IntKind.i64 ((BitVec.ofInt (IntKind.bits IntKind.i64) x &&& BitVec.ofInt (IntKind.bits IntKind.i64) (255 : Int)).toNat : Int) ∧ IntKind.wrap IntKind.i64 ((BitVec.ofInt (IntKind.bits IntKind.i64) x &&& BitVec.ofInt (IntKind.bits IntKind.i64) (255 : Int)).toNat : Int) ≤ 255 := and_le_nat x 255 (by decide)
/-- a cursor over bytes -/
def cur (b : List Int) (p : Int) : Prop := b.length ≤ 1048576 ∧ 0 ≤ p ∧ p ≤ b.length
theorem spec_l1New.sp {d : Nat} (hd : 1 ≤ d) {b : List Int} (hl : b.length ≤ 1048576) : Tells (spec_l1New.f d b) fun r => r.1 = b ∧ cur b r.2.1 := by
  obtain ⟨d, rfl, _⟩ := dep hd
  rw [spec_l1New.t_eq]
  dsimp only [spec_l1New.m]
  refine loop0 (σ := Int) (spec_l1New.S0 d) (min b.length 4000) (fun x i => (b, x, i)) (fun _ _ => True) (fun _ _ r => r.1 = b ∧ cur b r.2.1) _ (by omega) trivial ?_ ?_
  · intro L x _
    have hc : cur b 0 := ⟨hl, by omega, by omega⟩
    dsimp only [spec_l1New.S0, spec_l1New.s0]
    exact tif (fun _ => tif (fun _ => ti (by omega) (by omega)) fun _ => tl ⟨rfl, hc⟩) fun _ => tl ⟨rfl, hc⟩
  · intro L x i _ hi ih
    dsimp only [spec_l1New.S0, spec_l1New.s0]
    refine tp (by omega) (tp (by omega) (ti (by omega) ?_))
    rw [wrap_succ (by omega)]
    exact ih _ trivial
theorem spec_l1Byte.sp {d : Nat} (hd : 1 ≤ d) {b : List Int} {p x : Int} (hc : cur b p) : Tells (spec_l1Byte.f d (b, p, x)) fun r => 0 ≤ r.1 ∧ r.1 ≤ 255 ∧ cur b r.2.1 := by
  obtain ⟨d, rfl, _⟩ := dep hd
  rw [spec_l1Byte.t_eq]
  dsimp only [spec_l1Byte.m]
  obtain ⟨h1, h2, h3⟩ := hc
  refine tp (by decide) (tp (by decide) (tif (fun c => tt (by rw [decide_eq_true h2, decide_eq_true c]; rfl) (tl ?_)) fun c => tl ?_))
  · refine ⟨(low_byte _).1, (low_byte _).2, h1, ?_⟩
    show 0 ≤ IntKind.wrap IntKind.i64 (p + 1) ∧ IntKind.wrap IntKind.i64 (p + 1) ≤ (b.length : Int)
    rw [wrap_id (x := p + 1) (by omega) (by omega)]
    omega
  · exact ⟨(low_byte _).1, (low_byte _).2, h1, h2, h3⟩
theorem spec_l1Below.sp {d : Nat} (hd : 2 ≤ d) {b : List Int} {p x n : Int} (hc : cur b p) : Tells (spec_l1Below.f d (b, p, x, n)) fun r => 0 ≤ r.1 ∧ (0 < n → r.1 < n) ∧ cur b r.2.1 := by
  obtain ⟨d, rfl, _⟩ := dep hd
  rw [spec_l1Below.t_eq]
  dsimp only [spec_l1Below.m]
  refine tif (fun c => tl ⟨by omega, fun h => by omega, hc⟩) fun c => tif (fun c2 => ?_) fun c2 => ?_
  · refine tb (spec_l1Byte.sp (by omega) hc) fun r hr => tp (by omega) (tl ?_)
    rw [Int.tmod_eq_emod_of_nonneg hr.1]
    exact ⟨Int.emod_nonneg _ (by omega), fun _ => Int.emod_lt_of_pos _ (by omega), hr.2.2⟩
  · refine tb (spec_l1Byte.sp (by omega) hc) fun r2 h2 => tb (spec_l1Byte.sp (by omega) h2.2.2) fun r3 h3 => tb (spec_l1Byte.sp (by omega) h3.2.2) fun r4 h4 => tp (by omega) (tl ?_)
    have e : IntKind.wrap IntKind.i64 ((IntKind.wrap IntKind.i64 ((IntKind.wrap IntKind.i64 (r2.1 * (65536 : Int))) + (IntKind.wrap IntKind.i64 (r3.1 * (256 : Int))))) + r4.1) = r2.1 * 65536 + r3.1 * 256 + r4.1 := by
      rw [wrap_id (x := r2.1 * 65536) (by omega) (by omega), wrap_id (x := r3.1 * 256) (by omega) (by omega), wrap_id (x := r2.1 * 65536 + r3.1 * 256) (by omega) (by omega), wrap_id (by omega) (by omega)]
    rw [e, Int.tmod_eq_emod_of_nonneg (by omega)]
    exact ⟨Int.emod_nonneg _ (by omega), fun _ => Int.emod_lt_of_pos _ (by omega), h4.2.2⟩
theorem spec_l1Int.sp {d : Nat} (hd : 3 ≤ d) {b : List Int} {p x : Int} {l : List Int} (hc : cur b p) (h0 : 0 < l.length) : Tells (spec_l1Int.f d (b, p, x, l)) fun r => r.1 ∈ l ∧ cur b r.2.1 := by
  obtain ⟨d, rfl, _⟩ := dep hd
  rw [spec_l1Int.t_eq]
  dsimp only [spec_l1Int.m]
  refine tb (spec_l1Below.sp (by omega) hc) fun r hr => ?_
  have hlt := hr.2.1 (by omega)
  have hi : r.1.toNat < l.length := by omega
  have e : r.1 = ((r.1.toNat : Nat) : Int) := by omega
  rw [e]
  refine ti hi (tl ?_)
  rw [getD_in hi]
  exact ⟨List.getElem_mem hi, hr.2.2⟩
theorem spec_l1Once.sp {d : Nat} (hd : 3 ≤ d) {b : List Int} {p x n : Int} (hc : cur b p) : Tells (spec_l1Once.f d (b, p, x, n)) fun r => cur b r.2.1 := by
  obtain ⟨d, rfl, _⟩ := dep hd
  rw [spec_l1Once.t_eq]
  dsimp only [spec_l1Once.m]
  exact tb (spec_l1Below.sp (by omega) hc) fun r hr => tl hr.2.2
theorem laws_big.sp {d : Nat} (hd : 1 ≤ d) (b : List Int) : laws_big.f d b = some (decide ((b.length : Int) > 1048576)) := by
  obtain ⟨d, rfl, _⟩ := dep hd
  rw [laws_big.t_eq]
  rfl
abbrev Col := ByteArray × Int × Bool
abbrev By := Int × Bool
abbrev Ix := ByteArray × Bool × List (Int × Bool)
abbrev Df := ByteArray × List (ByteArray × Int × Bool) × List (Int × Bool) × List (ByteArray × Bool × List (Int × Bool))
theorem loopL {A R β : Type} (s : (A → Option R) → A → Option R) (l : List β) (mk : Int → A) (F : Nat → List β → R) (hl : l.length ≤ 4611686018427387904)
    (base : ∀ L, Tells (s L (mk (l.length : Int))) (· = F l.length []))
    (step : ∀ L i (hi : i < l.length), Tells (L (mk ((i + 1 : Nat) : Int))) (· = F (i + 1) (l.drop (i + 1))) → Tells (s L (mk (i : Int))) (· = F i (l[i] :: l.drop (i + 1)))) :
    Tells (iter s rnds (mk (0 : Int))) (· = F 0 l) := by
  have := loopE s l.length mk (fun i r => r = F i (l.drop i)) hl (fun L => by
    rw [List.drop_length]; exact base L) fun L i hi ih => by
    rw [drop_at hi]; exact step L i hi ih
  simpa using this
/-- a loop that stops with v at the first element that p takes -/
theorem loopStop {A R β : Type} (s : (A → Option R) → A → Option R) (l : List β) (mk : Int → A) (p : β → Bool) (v R0 : R) (hl : l.length ≤ 4611686018427387904)
    (base : ∀ L, Tells (s L (mk (l.length : Int))) (· = R0))
    (step : ∀ L i (hi : i < l.length) e, Tells (L (mk ((i + 1 : Nat) : Int))) (· = e) → Tells (s L (mk (i : Int))) (· = bif p l[i] then v else e)) :
    Tells (iter s rnds (mk (0 : Int))) (· = bif l.any p then v else R0) := by
  refine loopL s l mk (fun _ r => bif r.any p then v else R0) hl (fun L => base L) fun L i hi ih => ?_
  refine (step L i hi _ ih).mono fun r hr => ?_
  rw [hr, List.any_cons]
  cases p l[i] <;> rfl
/-- The words that are no names. -/
def wordsL : List ByteArray := [(⟨#[116, 97, 98, 108, 101]⟩ : ByteArray), (⟨#[112, 114, 105, 109, 97, 114, 121]⟩ : ByteArray), (⟨#[117, 110, 105, 113, 117, 101]⟩ : ByteArray), (⟨#[105, 110, 100, 101, 120]⟩ : ByteArray), (⟨#[110, 117, 108, 108]⟩ : ByteArray), (⟨#[100, 101, 115, 99]⟩ : ByteArray), (⟨#[105, 110, 116]⟩ : ByteArray), (⟨#[110, 117, 109]⟩ : ByteArray), (⟨#[116, 101, 120, 116]⟩ : ByteArray), (⟨#[98, 111, 111, 108]⟩ : ByteArray)]
theorem toList_inj {a b : ByteArray} (h : a.toList = b.toList) : a = b := by
  rw [ByteArray.toList_eq, ByteArray.toList_eq] at h
  exact ByteArray.ext (Array.toList_inj.1 h)
def isT (a b : ByteArray) : Bool := a.toList == b.toList
theorem isT_iff {a b : ByteArray} : isT a b = true ↔ a = b := by
  unfold isT
  rw [beq_iff_eq]
  exact ⟨toList_inj, fun h => by rw [h]⟩
def freeM (s : ByteArray) : Bool := nameM s.size 0 (bytesOf s) && !(wordsL.any fun w => isT w s)
def namesM (d : Df) : Bool := d.2.1.all (fun c => freeM c.1) && (d.2.2.2.all (fun x => freeM x.1) && freeM d.1)
def typesM (cs : List Col) : Bool := cs.all (fun c => inB c.2.1 1 4) && inB cs.length 1 6
/-- No name stands twice: p are those that came before. -/
def onceR : List ByteArray → List ByteArray → Bool
  | _, [] => true
  | p, x :: r => !(p.any fun y => isT y x) && onceR (p ++ [x]) r
def onceM (d : Df) : Bool := onceR [] (d.2.1.map (·.1)) && onceR [] (d.2.2.2.map (·.1))
def partsM (n : Int) (ps : List By) : Bool := match ps with
  | [a] => inB a.1 0 (n - 1)
  | [a, b] => inB a.1 0 (n - 1) && (inB b.1 0 (n - 1) && !decide (a.1 = b.1))
  | _ => false
theorem partsM_in {n : Int} {ps : List By} (h : partsM n ps = true) : ∀ p ∈ ps, 0 ≤ p.1 ∧ p.1 < n := by
  unfold partsM at h
  match ps, h with
  | [a], h => intro p hp; rw [List.mem_singleton] at hp; rw [hp]; have := inB_iff.1 h; omega
  | [a, b], h =>
    simp only [Bool.and_eq_true] at h
    have h1 := inB_iff.1 h.1
    have h2 := inB_iff.1 h.2.1
    intro p hp
    simp only [List.mem_cons, List.not_mem_nil, or_false] at hp
    rcases hp with e | e <;> rw [e] <;> omega
theorem partsM_len {n : Int} {ps : List By} (h : partsM n ps = true) : 1 ≤ ps.length ∧ ps.length ≤ 2 := by
  unfold partsM at h
  match ps, h with
  | [a], _ => exact ⟨by simp, by simp⟩
  | [a, b], _ => exact ⟨by simp, by simp⟩
theorem partsM_not {n : Int} {ps : List By} (h : ¬ inB ps.length 1 2 = true) : partsM n ps = false := by
  cases c : partsM n ps with
  | false => rfl
  | true => have := partsM_len c; exact absurd (inB_iff.2 ⟨by omega, by omega⟩) h
def allPartsM (d : Df) : Bool := d.2.2.2.all (fun x => partsM d.2.1.length x.2.2) && partsM d.2.1.length d.2.2.1
def colAt (cs : List Col) (i : Int) : Col := List.getD cs (Int.toNat i) (ByteArray.empty, (0 : Int), false)
def nullAt (cs : List Col) (p : By) : Bool := (colAt cs p.1).2.2
/-- What is wrong with a table. -/
def checkM (d : Df) : Int :=
  bif namesM d then (bif typesM d.2.1 then (bif onceM d then (bif decide ((d.2.2.2.length : Int) > 2) then 6 else bif allPartsM d then (bif d.2.2.1.any (nullAt d.2.1) then 4 else 0) else 5) else 3) else 2) else 1
def goodM (d : Df) : Prop := namesM d = true ∧ typesM d.2.1 = true ∧ onceM d = true ∧ d.2.2.2.length ≤ 2 ∧ allPartsM d = true ∧ d.2.2.1.any (nullAt d.2.1) = false
theorem checkM_iff {d : Df} : checkM d = 0 ↔ goodM d := by
  unfold checkM goodM
  cases namesM d <;> cases typesM d.2.1 <;> cases onceM d <;> cases allPartsM d <;> cases d.2.2.1.any (nullAt d.2.1) <;> by_cases h : (d.2.2.2.length : Int) > 2 <;> simp [h] <;> omega
theorem at_mem {β : Type} {l : List β} {i : Int} {z : β} (h0 : 0 ≤ i) (h1 : i < l.length) : List.getD l (Int.toNat i) z ∈ l := by
  have e : i = ((i.toNat : Nat) : Int) := by omega
  rw [e, getD_in (show i.toNat < l.length by omega)]
  exact List.getElem_mem _
theorem allParts_of {d : Df} (h : allPartsM d = true) : partsM d.2.1.length d.2.2.1 = true ∧ ∀ x ∈ d.2.2.2, partsM d.2.1.length x.2.2 = true := by
  unfold allPartsM at h
  rw [Bool.and_eq_true] at h
  exact ⟨h.2, fun x hx => List.all_eq_true.1 h.1 x hx⟩
theorem goodM.parts {d : Df} (h : goodM d) : partsM d.2.1.length d.2.2.1 = true ∧ ∀ x ∈ d.2.2.2, partsM d.2.1.length x.2.2 = true := allParts_of h.2.2.2.2.1
theorem goodM.types {d : Df} (h : goodM d) : (∀ c ∈ d.2.1, inB c.2.1 1 4 = true) ∧ 1 ≤ d.2.1.length ∧ d.2.1.length ≤ 6 := by
  have := h.2.1
  unfold typesM at this
  rw [Bool.and_eq_true] at this
  have q := inB_iff.1 this.2
  exact ⟨fun c hc => List.all_eq_true.1 this.1 c hc, by omega, by omega⟩
theorem ba_assoc (a b c : ByteArray) : a ++ b ++ c = a ++ (b ++ c) := by
  apply ByteArray.ext
  simp only [ByteArray.data_append, Array.append_assoc]
theorem ba_nil (a : ByteArray) : (⟨#[]⟩ : ByteArray) ++ a = a := by
  apply ByteArray.ext
  simp only [ByteArray.data_append, Array.empty_append]
def tyL : List ByteArray := [(⟨#[]⟩ : ByteArray), (⟨#[105, 110, 116]⟩ : ByteArray), (⟨#[110, 117, 109]⟩ : ByteArray), (⟨#[116, 101, 120, 116]⟩ : ByteArray), (⟨#[98, 111, 111, 108]⟩ : ByteArray)]
def tyAt (t : Int) : ByteArray := List.getD tyL (Int.toNat t) ByteArray.empty
theorem tyAt_size (t : Int) (h0 : 1 ≤ t) (h1 : t ≤ 4) : (tyAt t).size ≤ 4 := by
  have : t = 1 ∨ t = 2 ∨ t = 3 ∨ t = 4 := by omega
  rcases this with e | e | e | e <;> rw [e] <;> decide
def partOne (cs : List Col) (p : By) : ByteArray := bif p.2 then (colAt cs p.1).1 ++ (⟨#[32, 100, 101, 115, 99]⟩ : ByteArray) else (colAt cs p.1).1
/-- Parts' text: one, or two with a comma between. -/
def partTx (cs : List Col) (ps : List By) : ByteArray := match ps with
  | [p] => partOne cs p ++ (⟨#[59, 32]⟩ : ByteArray)
  | [p, q] => ((partOne cs p ++ (⟨#[44, 32]⟩ : ByteArray)) ++ partOne cs q) ++ (⟨#[59, 32]⟩ : ByteArray)
  | _ => (⟨#[]⟩ : ByteArray)
def namesS (cs : List Col) : Prop := ∀ c ∈ cs, c.1.size ≤ 8
theorem partOne_size {cs : List Col} (hc : namesS cs) (p : By) (h0 : 0 ≤ p.1) (h1 : p.1 < cs.length) : (partOne cs p).size ≤ 13 := by
  have : (colAt cs p.1).1.size ≤ 8 := hc _ (at_mem h0 h1)
  have z : (⟨#[32, 100, 101, 115, 99]⟩ : ByteArray).size = 5 := rfl
  unfold partOne
  cases p.2
  · show (colAt cs p.1).1.size ≤ 13; omega
  · show ((colAt cs p.1).1 ++ (⟨#[32, 100, 101, 115, 99]⟩ : ByteArray)).size ≤ 13
    rw [ByteArray.size_append]; omega
theorem partTx_size {cs : List Col} (hc : namesS cs) (ps : List By) (h : partsM cs.length ps = true) : (partTx cs ps).size ≤ 30 := by
  have pin := partsM_in h
  have z1 : (⟨#[59, 32]⟩ : ByteArray).size = 2 := rfl
  have z2 : (⟨#[44, 32]⟩ : ByteArray).size = 2 := rfl
  match ps, h with
  | [p], _ =>
    have p1 := pin p (by simp)
    have := partOne_size hc p p1.1 p1.2
    simp only [partTx, ByteArray.size_append]
    omega
  | [p, q], _ =>
    have p1 := pin p (by simp)
    have q1 := pin q (by simp)
    have := partOne_size hc p p1.1 p1.2
    have := partOne_size hc q q1.1 q1.2
    simp only [partTx, ByteArray.size_append]
    omega
/-- A column's text, behind what stands. -/
def colS (s : ByteArray) (c : Col) : ByteArray := (bif c.2.2 then (s ++ ((c.1 ++ (⟨#[32]⟩ : ByteArray)) ++ tyAt c.2.1)) ++ (⟨#[32, 110, 117, 108, 108]⟩ : ByteArray) else s ++ ((c.1 ++ (⟨#[32]⟩ : ByteArray)) ++ tyAt c.2.1)) ++ (⟨#[59, 32]⟩ : ByteArray)
def idxS (cs : List Col) (s : ByteArray) (x : Ix) : ByteArray := s ++ ((((bif x.2.1 then (⟨#[117, 110, 105, 113, 117, 101, 32]⟩ : ByteArray) else (⟨#[105, 110, 100, 101, 120, 32]⟩ : ByteArray)) ++ x.1) ++ (⟨#[32]⟩ : ByteArray)) ++ partTx cs x.2.2)
def headTx (d : Df) : ByteArray := ((⟨#[116, 97, 98, 108, 101, 32]⟩ : ByteArray) ++ d.1) ++ (⟨#[32, 123, 32]⟩ : ByteArray)
def restTx (d : Df) (s : ByteArray) : ByteArray :=
  d.2.2.2.foldl (idxS d.2.1) (s ++ ((⟨#[112, 114, 105, 109, 97, 114, 121, 32]⟩ : ByteArray) ++ partTx d.2.1 d.2.2.1)) ++ (⟨#[125]⟩ : ByteArray)
def defTx (d : Df) : ByteArray := bif decide (checkM d = 0) then restTx d (d.2.1.foldl colS (headTx d)) else (⟨#[]⟩ : ByteArray)
theorem colS_size (s : ByteArray) (c : Col) (h : c.1.size ≤ 8 ∧ 1 ≤ c.2.1 ∧ c.2.1 ≤ 4) : (colS s c).size ≤ s.size + 30 := by
  have t := tyAt_size c.2.1 h.2.1 h.2.2
  have z1 : (⟨#[32]⟩ : ByteArray).size = 1 := rfl
  have z2 : (⟨#[32, 110, 117, 108, 108]⟩ : ByteArray).size = 5 := rfl
  have z3 : (⟨#[59, 32]⟩ : ByteArray).size = 2 := rfl
  unfold colS
  cases c.2.2 <;> simp only [cond_true, cond_false, ByteArray.size_append] <;> omega
theorem idxS_size {cs : List Col} (hc : namesS cs) (s : ByteArray) (x : Ix) (h : x.1.size ≤ 8 ∧ partsM cs.length x.2.2 = true) : (idxS cs s x).size ≤ s.size + 60 := by
  have t := partTx_size hc x.2.2 h.2
  have z1 : (⟨#[32]⟩ : ByteArray).size = 1 := rfl
  have z2 : (⟨#[117, 110, 105, 113, 117, 101, 32]⟩ : ByteArray).size = 7 := rfl
  have z3 : (⟨#[105, 110, 100, 101, 120, 32]⟩ : ByteArray).size = 6 := rfl
  unfold idxS
  cases x.2.1 <;> simp only [cond_true, cond_false, ByteArray.size_append] <;> omega
theorem nameM_end (n : Int) : ∀ (l : List Int) (i : Nat), nameM n i l = true → inB n 1 8 = true
  | [], _, h => h
  | x :: r, i, h => by
    rw [nameM] at h
    split at h
    · exact nameM_end n r (i + 1) h
    · split at h
      · cases h
      · split at h
        · exact nameM_end n r (i + 1) h
        · cases h
theorem freeM_size {s : ByteArray} (h : freeM s = true) : 1 ≤ s.size ∧ s.size ≤ 8 := by
  unfold freeM at h
  rw [Bool.and_eq_true] at h
  have := inB_iff.1 (nameM_end _ _ _ h.1)
  omega
theorem goodM.names {d : Df} (h : goodM d) : freeM d.1 = true ∧ (∀ c ∈ d.2.1, freeM c.1 = true) ∧ ∀ x ∈ d.2.2.2, freeM x.1 = true := by
  have := h.1
  unfold namesM at this
  rw [Bool.and_eq_true, Bool.and_eq_true] at this
  exact ⟨this.2.2, fun c hc => List.all_eq_true.1 this.1 c hc, fun x hx => List.all_eq_true.1 this.2.1 x hx⟩
theorem foldl_size {β : Type} (f : ByteArray → β → ByteArray) (B : Nat) : ∀ (l : List β) (s : ByteArray), (∀ x ∈ l, ∀ s, (f s x).size ≤ s.size + B) → (l.foldl f s).size ≤ s.size + B * l.length
  | [], s, _ => by simp
  | x :: r, s, h => by
    rw [List.foldl_cons, List.length_cons]
    have h1 := h x List.mem_cons_self s
    have h2 := foldl_size f B r (f s x) (fun y hy => h y (List.mem_cons_of_mem _ hy))
    rw [Nat.mul_add]
    omega
def defsS (s : ByteArray) (d : Df) : ByteArray := s ++ (defTx d ++ (⟨#[10]⟩ : ByteArray))
def defsTx (l : List Df) : ByteArray := l.foldl defsS (⟨#[]⟩ : ByteArray)
def samePt : List By → List By → Bool
  | x :: r, y :: s => (x.1 == y.1 && x.2 == y.2) && samePt r s
  | _, _ => true
def samePts (a b : List By) : Bool := decide ((a.length : Int) = b.length) && samePt a b
def sameCl : List Col → List Col → Bool
  | x :: r, y :: s => (isT x.1 y.1 && (x.2.1 == y.2.1 && x.2.2 == y.2.2)) && sameCl r s
  | _, _ => true
def sameXl : List Ix → List Ix → Bool
  | x :: r, y :: s => isT x.1 y.1 && (x.2.1 == y.2.1 && (samePts x.2.2 y.2.2 && sameXl r s))
  | _, _ => true
def sameD (a b : Df) : Bool := isT a.1 b.1 && (decide ((a.2.1.length : Int) = b.2.1.length) && (decide ((a.2.2.2.length : Int) = b.2.2.2.length) && (samePts a.2.2.1 b.2.2.1 && (sameCl a.2.1 b.2.1 && sameXl a.2.2.2 b.2.2.2))))
/-- a table's rows and texts are no longer than memory holds / than a million -/
def dfFit (k : Nat) (x : Df) : Prop := x.1.size ≤ k ∧ (x.2.1.length ≤ k ∧ ∀ y ∈ x.2.1, y.1.size ≤ k) ∧ x.2.2.1.length ≤ k ∧ (x.2.2.2.length ≤ k ∧ ∀ y ∈ x.2.2.2, y.1.size ≤ k ∧ y.2.2.length ≤ k)
theorem dfFit.mono {k m : Nat} {x : Df} (h : dfFit k x) (hm : k ≤ m) : dfFit m x :=
  ⟨by have := h.1; omega, ⟨by have := h.2.1.1; omega, fun y hy => by have := h.2.1.2 y hy; omega⟩, by have := h.2.2.1; omega, by have := h.2.2.2.1; omega, fun y hy => by have := h.2.2.2.2 y hy; omega⟩
theorem get_byte {s : ByteArray} {i : Nat} (h : i < (bytesOf s).length) : ((ByteArray.get! s (Int.toNat (i : Int))).toNat : Int) = (bytesOf s)[i] := by
  have h2 : i < s.data.size := by simpa [strNums] using h
  rw [Int.toNat_natCast]
  simp [strNums, ByteArray.get!, getElem!_pos s.data i h2]
theorem byte_in {s : ByteArray} {i : Nat} (h : i < (bytesOf s).length) : 0 ≤ (bytesOf s)[i] ∧ (bytesOf s)[i] ≤ 255 := bytesOf_bytes s _ (List.getElem_mem h)
theorem impl_isLetter.sp {d : Nat} (hd : 1 ≤ d) (a : Int) : impl_isLetter.f d a = some (inB a 97 122) := by
  obtain ⟨d, rfl, _⟩ := dep hd
  rw [impl_isLetter.t_eq]
  exact in_def a 97 122
theorem impl_isDigit.sp {d : Nat} (hd : 1 ≤ d) (a : Int) : impl_isDigit.f d a = some (inB a 48 57) := by
  obtain ⟨d, rfl, _⟩ := dep hd
  rw [impl_isDigit.t_eq]
  exact in_def a 48 57
theorem spec_l8Small.sp {d : Nat} (hd : 2 ≤ d) {a : Int} (h : 0 ≤ a ∧ a ≤ 255) : spec_l8Small.f d a = some (inB a 97 122) := by
  obtain ⟨d, rfl, _⟩ := dep hd
  rw [spec_l8Small.t_eq]
  dsimp only [spec_l8Small.m]
  rw [wrap_id (by omega) (by omega), spec_l1In.sp (by omega)]; rfl
theorem spec_l2Digit.sp {d : Nat} (hd : 2 ≤ d) {a : Int} (h : 0 ≤ a ∧ a ≤ 255) : spec_l2Digit.f d a = some (inB a 48 57) := by
  obtain ⟨d, rfl, _⟩ := dep hd
  rw [spec_l2Digit.t_eq]
  dsimp only [spec_l2Digit.m]
  rw [wrap_id (by omega) (by omega), spec_l1In.sp (by omega)]; rfl
theorem impl_nameOk.sp {d : Nat} (hd : 2 ≤ d) {s : ByteArray} (hs : s.size ≤ 140737488351232) : impl_nameOk.f d s = some (nameM s.size 0 (bytesOf s)) := by
  obtain ⟨d, rfl, _⟩ := dep hd
  rw [impl_nameOk.t_eq]
  dsimp only [impl_nameOk.m]
  have hl := bytesOf_length s
  refine Tells.eq (loopL (impl_nameOk.S0 d) (bytesOf s) (fun i => (s, i)) (fun i r => nameM s.size i r) (by omega) (fun L => ?_) fun L i hi ih => ?_)
  · dsimp only [impl_nameOk.S0, impl_nameOk.s0]
    exact tn (by omega) (tc (impl_in.sp (by omega) _ _ _) (tl rfl))
  · dsimp only [impl_nameOk.S0, impl_nameOk.s0]
    refine tp (by omega) (ti (by omega) ?_)
    rw [get_byte hi, wrap_succ (by omega)]
    refine tc (impl_isLetter.sp (by omega) _) ?_
    rw [nameM]
    by_cases c1 : inB (bytesOf s)[i] 97 122 = true
    · rw [if_pos c1]; exact tf (by rw [c1]; rfl) ih
    · rw [if_neg c1]
      refine tt (by simp [c1]) ?_
      by_cases c2 : i = 0
      · rw [if_pos c2]; exact tt (by simp [c2]) (tl rfl)
      · rw [if_neg c2]
        refine tf (by simp; omega) (ti (by omega) (tc (impl_isDigit.sp (by omega) _) ?_))
        by_cases c3 : inB (bytesOf s)[i] 48 57 = true
        · rw [if_pos c3]; exact tf (by rw [c3]; rfl) ih
        · rw [if_neg c3]; exact tt (by simp [c3]) (tl rfl)
theorem spec_l8Name.sp {d : Nat} (hd : 3 ≤ d) {s : ByteArray} (hs : s.size ≤ 140737488351232) : spec_l8Name.f d s = some (nameM s.size 0 (bytesOf s)) := by
  obtain ⟨d, rfl, _⟩ := dep hd
  rw [spec_l8Name.t_eq]
  dsimp only [spec_l8Name.m]
  have hl := bytesOf_length s
  refine Tells.eq (loopL (spec_l8Name.S0 d) (bytesOf s) (fun i => (s, i)) (fun i r => nameM s.size i r) (by omega) (fun L => ?_) fun L i hi ih => ?_)
  · dsimp only [spec_l8Name.S0, spec_l8Name.s0]
    exact tn (by omega) (tc (spec_l1In.sp (by omega) _ _ _) (tl rfl))
  · dsimp only [spec_l8Name.S0, spec_l8Name.s0]
    refine tp (by omega) (ti (by omega) ?_)
    have hb := byte_in hi
    rw [get_byte hi, wrap_succ (by omega)]
    refine tc (spec_l8Small.sp (by omega) hb) ?_
    rw [nameM]
    by_cases c1 : inB (bytesOf s)[i] 97 122 = true
    · rw [if_pos c1]; exact tf (by rw [c1]; rfl) ih
    · rw [if_neg c1]
      refine tt (by simp [c1]) ?_
      by_cases c2 : i = 0
      · rw [if_pos c2]; exact tt (by simp [c2]) (tl rfl)
      · rw [if_neg c2]
        refine tf (by simp; omega) (ti (by omega) (tc (spec_l2Digit.sp (by omega) hb) ?_))
        by_cases c3 : inB (bytesOf s)[i] 48 57 = true
        · rw [if_pos c3]; exact tf (by rw [c3]; rfl) ih
        · rw [if_neg c3]; exact tt (by simp [c3]) (tl rfl)
theorem spec_l9Has.sp {d : Nat} (hd : 1 ≤ d) {l : List ByteArray} (hl : l.length ≤ 140737488351232) (s : ByteArray) : spec_l9Has.f d (l, s) = some (l.any fun w => isT w s) := by
  obtain ⟨d, rfl, _⟩ := dep hd
  rw [spec_l9Has.t_eq]
  dsimp only [spec_l9Has.m]
  have := loopStop (spec_l9Has.S0 d) l (fun i => (l, s, i)) (fun w => isT w s) true false (by omega) (fun L => ?_) fun L i hi e ih => ?_
  · refine Tells.eq (this.mono fun r hr => ?_)
    rw [hr]; cases (l.any fun w => isT w s) <;> rfl
  · dsimp only [spec_l9Has.S0, spec_l9Has.s0]
    exact tn (by omega) (tl rfl)
  · dsimp only [spec_l9Has.S0, spec_l9Has.s0]
    refine tp (by omega) (ti hi ?_)
    rw [getD_in hi, wrap_succ (by omega)]
    exact tbif (fun c => tl (by rw [show isT l[i] s = true from c]; rfl)) fun c => by rw [show isT l[i] s = false from c]; exact ih
theorem spec_l9Word.sp {d : Nat} (hd : 4 ≤ d) {s : ByteArray} (hs : s.size ≤ 140737488351232) : spec_l9Word.f d s = some (freeM s) := by
  obtain ⟨d, rfl, _⟩ := dep hd
  rw [spec_l9Word.t_eq]
  dsimp only [spec_l9Word.m]
  refine Tells.eq (tc (spec_l8Name.sp (by omega) hs) (tbif (fun c => tc (spec_l9Has.sp (l := wordsL) (by omega) (by decide) s) (tl ?_)) fun c => tl ?_))
  · unfold freeM; rw [c]; rfl
  · unfold freeM; rw [c]; rfl
/-- a loop that ends with no at the first element that p does not take -/
theorem loopAnd {A β : Type} (s : (A → Option Bool) → A → Option Bool) (l : List β) (mk : Int → A) (p : β → Bool) (R0 : Bool) (hl : l.length ≤ 4611686018427387904)
    (base : ∀ L, Tells (s L (mk (l.length : Int))) (· = R0))
    (step : ∀ L i (hi : i < l.length) e, Tells (L (mk ((i + 1 : Nat) : Int))) (· = e) → Tells (s L (mk (i : Int))) (· = (p l[i] && e))) :
    Tells (iter s rnds (mk (0 : Int))) (· = (l.all p && R0)) := by
  refine loopL s l mk (fun _ r => r.all p && R0) hl base fun L i hi ih => ?_
  refine (step L i hi _ ih).mono fun r hr => ?_
  rw [hr, List.all_cons, Bool.and_assoc]
theorem spec_l9Names.sp {d : Nat} (hd : 5 ≤ d) {x : Df} (h : dfFit 140737488351232 x) : spec_l9Names.f d (x.1, x.2.1, x.2.2.1, x.2.2.2) = some (namesM x) := by
  obtain ⟨d, rfl, _⟩ := dep hd
  rw [spec_l9Names.t_eq]
  dsimp only [spec_l9Names.m]
  obtain ⟨h0, ⟨h1, h2⟩, h3, h4, h5⟩ := h
  refine Tells.eq (loopAnd (spec_l9Names.S0 d) x.2.1 (fun i => (i, x.1, x.2.1, x.2.2.1, x.2.2.2)) (fun c => freeM c.1) _ (by omega) (fun L => ?_) fun L i hi e ih => ?_)
  · dsimp only [spec_l9Names.S0, spec_l9Names.s0]
    refine tn (by omega) ?_
    refine loopAnd (spec_l9Names.S2 d) x.2.2.2 (fun i => (i, x.1, x.2.1, x.2.2.1, x.2.2.2)) (fun c => freeM c.1) _ (by omega) (fun L => ?_) fun L i hi e ih => ?_
    · dsimp only [spec_l9Names.S2, spec_l9Names.s2]
      exact tn (by omega) (tc (spec_l9Word.sp (by omega) h0) (tl rfl))
    · dsimp only [spec_l9Names.S2, spec_l9Names.s2]
      refine tp (by omega) (ti hi ?_)
      rw [getD_in hi, wrap_succ (by omega)]
      refine tc (spec_l9Word.sp (by omega) (h5 _ (List.getElem_mem hi)).1) ?_
      cases freeM x.2.2.2[i].1
      · exact tt rfl (tl rfl)
      · exact tf rfl ih
  · dsimp only [spec_l9Names.S0, spec_l9Names.s0]
    refine tp (by omega) (ti hi ?_)
    rw [getD_in hi, wrap_succ (by omega)]
    refine tc (spec_l9Word.sp (by omega) (h2 _ (List.getElem_mem hi))) ?_
    cases freeM x.2.1[i].1
    · exact tt rfl (tl rfl)
    · exact tf rfl ih
theorem spec_l9Types.sp {d : Nat} (hd : 2 ≤ d) {x : Df} (h : dfFit 140737488351232 x) : spec_l9Types.f d (x.1, x.2.1, x.2.2.1, x.2.2.2) = some (typesM x.2.1) := by
  obtain ⟨d, rfl, _⟩ := dep hd
  rw [spec_l9Types.t_eq]
  dsimp only [spec_l9Types.m]
  have h1 := h.2.1.1
  refine Tells.eq (loopAnd (spec_l9Types.S0 d) x.2.1 (fun i => (i, x.1, x.2.1, x.2.2.1, x.2.2.2)) (fun c => inB c.2.1 1 4) _ (by omega) (fun L => ?_) fun L i hi e ih => ?_)
  · dsimp only [spec_l9Types.S0, spec_l9Types.s0]
    exact tn (by omega) (tc (spec_l1In.sp (by omega) _ _ _) (tl rfl))
  · dsimp only [spec_l9Types.S0, spec_l9Types.s0]
    refine tp (by omega) (ti hi ?_)
    rw [getD_in hi, wrap_succ (by omega)]
    refine tc (spec_l1In.sp (by omega) _ _ _) ?_
    cases inB x.2.1[i].2.1 1 4
    · exact tt rfl (tl rfl)
    · exact tf rfl ih
def firstI (s : ByteArray) : Nat → List Col → Int
  | _, [] => -1
  | n, x :: r => bif isT x.1 s then (n : Int) else firstI s (n + 1) r
theorem spec_l9Col.sp {d : Nat} (hd : 1 ≤ d) {x : Df} (h : x.2.1.length ≤ 140737488351232) (s : ByteArray) : spec_l9Col.f d (x.1, x.2.1, x.2.2.1, x.2.2.2, s) = some (firstI s 0 x.2.1) := by
  obtain ⟨d, rfl, _⟩ := dep hd
  rw [spec_l9Col.t_eq]
  dsimp only [spec_l9Col.m]
  refine Tells.eq (loopL (spec_l9Col.S0 d) x.2.1 (fun i => (s, i, x.1, x.2.1, x.2.2.1, x.2.2.2)) (fun i r => firstI s i r) (by omega) (fun L => ?_) fun L i hi ih => ?_)
  · dsimp only [spec_l9Col.S0, spec_l9Col.s0]
    exact tn (by omega) (tl rfl)
  · dsimp only [spec_l9Col.S0, spec_l9Col.s0]
    refine tp (by omega) (ti hi ?_)
    rw [getD_in hi, wrap_succ (by omega), firstI]
    exact tbif (fun c => tl (by rw [show isT x.2.1[i].1 s = true from c]; rfl)) fun c => by rw [show isT x.2.1[i].1 s = false from c]; exact ih
theorem firstI_app (s : ByteArray) (x : Col) (r : List Col) (hx : isT x.1 s = true) : ∀ (p : List Col) (n : Nat), (p.any (fun y => isT y.1 s) = true → firstI s n (p ++ x :: r) < (n + p.length : Nat)) ∧ (p.any (fun y => isT y.1 s) = false → firstI s n (p ++ x :: r) = (n + p.length : Nat))
  | [], n => ⟨fun h => by simp at h, fun _ => by simp [firstI, hx]⟩
  | y :: p, n => by
    have ih := firstI_app s x r hx p (n + 1)
    rw [List.cons_append, firstI, List.any_cons, List.length_cons]
    cases c : isT y.1 s
    · rw [Bool.false_or]
      exact ⟨fun h => by have := ih.1 h; simp only [cond_false]; omega, fun h => by have := ih.2 h; simp only [cond_false]; omega⟩
    · exact ⟨fun _ => by simp only [cond_true]; omega, fun h => by simp at h⟩
theorem isT_self (a : ByteArray) : isT a a = true := isT_iff.2 rfl
theorem take_succ' {β : Type} {l : List β} {i : Nat} (hi : i < l.length) : l.take (i + 1) = l.take i ++ [l[i]] := by
  rw [List.take_add_one, List.getElem?_eq_getElem hi]; rfl
/-- an inner loop over those that stand ahead -/
theorem loopAhead {A R β : Type} (s : (A → Option R) → A → Option R) (l : List β) (n : Nat) (hn : n ≤ l.length) (mk : Int → A) (p : β → Bool) (v R0 : R) (hl : l.length ≤ 4611686018427387904)
    (base : ∀ L, Tells (s L (mk (n : Int))) (· = R0))
    (step : ∀ L i (hi : i < n) e, Tells (L (mk ((i + 1 : Nat) : Int))) (· = e) → Tells (s L (mk (i : Int))) (· = bif p l[i] then v else e)) :
    Tells (iter s rnds (mk (0 : Int))) (· = bif (l.take n).any p then v else R0) := by
  have hlen : (l.take n).length = n := by rw [List.length_take]; omega
  refine loopStop s (l.take n) mk p v R0 (by omega) (fun L => by rw [hlen]; exact base L) fun L i hi e ih => ?_
  have hi' : i < n := by omega
  have := step L i hi' e ih
  rwa [show (l.take n)[i] = l[i] by simp]
theorem spec_l9Once.sp {d : Nat} (hd : 2 ≤ d) {x : Df} (h : dfFit 140737488351232 x) : spec_l9Once.f d (x.1, x.2.1, x.2.2.1, x.2.2.2) = some (onceM x) := by
  obtain ⟨d, rfl, _⟩ := dep hd
  rw [spec_l9Once.t_eq]
  dsimp only [spec_l9Once.m]
  have h1 := h.2.1.1
  have h4 := h.2.2.2.1
  have two : Tells (iter (spec_l9Once.S2 d) rnds ((0 : Int), x.1, x.2.1, x.2.2.1, x.2.2.2)) (· = onceR [] (x.2.2.2.map (·.1))) := by
    refine loopL (spec_l9Once.S2 d) x.2.2.2 (fun i => (i, x.1, x.2.1, x.2.2.1, x.2.2.2)) (fun i (r : List Ix) => onceR ((x.2.2.2.take i).map (·.1)) (r.map (·.1))) (by omega) (fun L => ?_) fun L i hi ih => ?_
    · dsimp only [spec_l9Once.S2, spec_l9Once.s2]
      exact tn (by omega) (tl rfl)
    · dsimp only [spec_l9Once.S2, spec_l9Once.s2]
      refine tp (by omega) ?_
      have := loopAhead (spec_l9Once.S4 d L) x.2.2.2 i (by omega) (fun j => ((i : Int), j, x.1, x.2.1, x.2.2.1, x.2.2.2)) (fun y => isT y.1 x.2.2.2[i].1) false (onceR ((x.2.2.2.take (i + 1)).map fun c => c.1) ((x.2.2.2.drop (i + 1)).map fun c => c.1)) (by omega) (fun L4 => ?_) fun L4 j hj e ih2 => ?_
      · refine this.mono fun r hr => ?_
        rw [hr, List.map_cons, onceR, List.any_map, take_succ' hi, List.map_append]
        show (bif (x.2.2.2.take i).any (fun y => isT y.1 x.2.2.2[i].1) then false else _) = (!((x.2.2.2.take i).any ((fun y => isT y x.2.2.2[i].1) ∘ (·.1))) && _)
        rw [show ((fun y => isT y x.2.2.2[i].1) ∘ (·.1) : Ix → Bool) = fun y => isT y.1 x.2.2.2[i].1 from rfl]
        cases (x.2.2.2.take i).any fun y => isT y.1 x.2.2.2[i].1
        · exact (rfl : onceR ((x.2.2.2.take i).map (·.1) ++ [x.2.2.2[i].1]) _ = _)
        · rfl
      · dsimp only [spec_l9Once.S4, spec_l9Once.s4]
        refine tn (by omega) ?_
        rw [wrap_succ (by omega)]
        exact ih
      · dsimp only [spec_l9Once.S4, spec_l9Once.s4]
        refine tp (by omega) (ti (by omega) (ti hi ?_))
        rw [getD_in hi, getD_in (show j < x.2.2.2.length by omega), wrap_succ (by omega)]
        exact tbif (fun c => tl (by rw [show isT _ _ = true from c]; rfl)) fun c => by rw [show isT _ _ = false from c]; exact ih2
  suffices g : Tells (iter (spec_l9Once.S0 d) rnds ((0 : Int), x.1, x.2.1, x.2.2.1, x.2.2.2)) (· = (onceR [] (x.2.1.map fun c => c.1) && onceR [] (x.2.2.2.map fun c => c.1))) from g.eq
  refine (loopL (spec_l9Once.S0 d) x.2.1 (fun i => (i, x.1, x.2.1, x.2.2.1, x.2.2.2)) (fun i (r : List Col) => onceR ((x.2.1.take i).map fun c => c.1) (r.map fun c => c.1) && onceR [] (x.2.2.2.map fun c => c.1)) (by omega) (fun L => ?_) fun L i hi ih => ?_)
  · dsimp only [spec_l9Once.S0, spec_l9Once.s0]
    exact tn (by omega) (two.mono fun r hr => by rw [hr]; rfl)
  · dsimp only [spec_l9Once.S0, spec_l9Once.s0]
    refine tp (by omega) (ti hi ?_)
    rw [getD_in hi, wrap_succ (by omega)]
    refine tc (spec_l9Col.sp (by omega) h1 _) ?_
    have tk : (x.2.1.take i).length = i := by rw [List.length_take]; omega
    have f := firstI_app x.2.1[i].1 x.2.1[i] (x.2.1.drop (i + 1)) (isT_self _) (x.2.1.take i) 0
    rw [← drop_at hi, List.take_append_drop, tk, Nat.zero_add] at f
    rw [List.map_cons, onceR, List.any_map]
    rw [take_succ' hi, List.map_append] at ih
    rw [show ((fun y => isT y x.2.1[i].1) ∘ (·.1) : Col → Bool) = fun y => isT y.1 x.2.1[i].1 from rfl]
    cases c : (x.2.1.take i).any fun y => isT y.1 x.2.1[i].1
    · exact tf (by rw [f.2 c]; simp) ih
    · exact tt (by have := f.1 c; simp; omega) (tl rfl)
theorem impl_twice.sp {d : Nat} (hd : 1 ≤ d) {x : Df} (h : dfFit 140737488351232 x) : impl_twice.f d (x.1, x.2.1, x.2.2.1, x.2.2.2) = some (!(onceM x)) := by
  obtain ⟨d, rfl, _⟩ := dep hd
  rw [impl_twice.t_eq]
  dsimp only [impl_twice.m]
  have h1 := h.2.1.1
  have h4 := h.2.2.2.1
  have two : Tells (iter (impl_twice.S4 d) rnds (x.2.2.2, (x.2.2.2.length : Int), (0 : Int), x.1, x.2.1, x.2.2.1, x.2.2.2)) (· = !(onceR [] (x.2.2.2.map (·.1)))) := by
    refine loopL (impl_twice.S4 d) x.2.2.2 (fun i => (x.2.2.2, (x.2.2.2.length : Int), i, x.1, x.2.1, x.2.2.1, x.2.2.2)) (fun i (r : List Ix) => !(onceR ((x.2.2.2.take i).map (·.1)) (r.map (·.1)))) (by omega) (fun L => ?_) fun L i hi ih => ?_
    · dsimp only [impl_twice.S4, impl_twice.s4]
      exact tn (by omega) (tl rfl)
    · dsimp only [impl_twice.S4, impl_twice.s4]
      have tk : (x.2.2.2.take i).length = i := by rw [List.length_take]; omega
      refine tp (by omega) (ti hi (tt (by simp; omega) ?_))
      rw [getD_in hi, Int.toNat_natCast, Int.toNat_zero, List.drop_zero]
      have := loopStop (impl_twice.S6 d L) (x.2.2.2.take i) (fun j => (x.2.2.2, (x.2.2.2.length : Int), (i : Int), x.2.2.2.take i, ((x.2.2.2.take i).length : Int), j, x.1, x.2.1, x.2.2.1, x.2.2.2, x.2.2.2[i].1, x.2.2.2[i].2.1, x.2.2.2[i].2.2)) (fun y => isT y.1 x.2.2.2[i].1) true (!(onceR ((x.2.2.2.take (i + 1)).map fun c => c.1) ((x.2.2.2.drop (i + 1)).map fun c => c.1))) (by omega) (fun L6 => ?_) fun L6 j hj e ih2 => ?_
      · refine this.mono fun r hr => ?_
        rw [hr, List.map_cons, onceR, List.any_map, take_succ' hi, List.map_append]
        rw [show ((fun y => isT y x.2.2.2[i].1) ∘ (·.1) : Ix → Bool) = fun y => isT y.1 x.2.2.2[i].1 from rfl]
        cases (x.2.2.2.take i).any fun y => isT y.1 x.2.2.2[i].1
        · exact (rfl : (!onceR ((x.2.2.2.take i).map (·.1) ++ [x.2.2.2[i].1]) _) = _)
        · rfl
      · dsimp only [impl_twice.S6, impl_twice.s6]
        refine tn (by omega) ?_
        rw [wrap_succ (by omega)]
        exact ih
      · dsimp only [impl_twice.S6, impl_twice.s6]
        refine tp (by omega) (ti hj ?_)
        rw [getD_in hj, wrap_succ (by omega)]
        exact tbif (fun c => tl (by rw [show isT _ _ = true from c]; rfl)) fun c => by rw [show isT _ _ = false from c]; exact ih2
  suffices g : Tells (iter (impl_twice.S0 d) rnds (x.2.1, (x.2.1.length : Int), (0 : Int), x.1, x.2.1, x.2.2.1, x.2.2.2)) (· = !(onceR [] (x.2.1.map fun c => c.1) && onceR [] (x.2.2.2.map fun c => c.1))) from g.eq
  refine (loopL (impl_twice.S0 d) x.2.1 (fun i => (x.2.1, (x.2.1.length : Int), i, x.1, x.2.1, x.2.2.1, x.2.2.2)) (fun i (r : List Col) => !(onceR ((x.2.1.take i).map fun c => c.1) (r.map fun c => c.1) && onceR [] (x.2.2.2.map fun c => c.1))) (by omega) (fun L => ?_) fun L i hi ih => ?_)
  · dsimp only [impl_twice.S0, impl_twice.s0]
    exact tn (by omega) (two.mono fun r hr => by rw [hr]; rfl)
  · dsimp only [impl_twice.S0, impl_twice.s0]
    have tk : (x.2.1.take i).length = i := by rw [List.length_take]; omega
    refine tp (by omega) (ti hi (tt (by simp; omega) ?_))
    rw [getD_in hi, Int.toNat_natCast, Int.toNat_zero, List.drop_zero]
    have := loopStop (impl_twice.S2 d L) (x.2.1.take i) (fun j => (x.2.1, (x.2.1.length : Int), (i : Int), x.2.1.take i, ((x.2.1.take i).length : Int), j, x.1, x.2.1, x.2.2.1, x.2.2.2, x.2.1[i].1, x.2.1[i].2.1, x.2.1[i].2.2)) (fun y => isT y.1 x.2.1[i].1) true (!(onceR ((x.2.1.take (i + 1)).map fun c => c.1) ((x.2.1.drop (i + 1)).map fun c => c.1) && onceR [] (x.2.2.2.map fun c => c.1))) (by omega) (fun L2 => ?_) fun L2 j hj e ih2 => ?_
    · refine this.mono fun r hr => ?_
      rw [hr, List.map_cons, onceR, List.any_map, take_succ' hi, List.map_append]
      rw [show ((fun y => isT y x.2.1[i].1) ∘ (·.1) : Col → Bool) = fun y => isT y.1 x.2.1[i].1 from rfl]
      cases (x.2.1.take i).any fun y => isT y.1 x.2.1[i].1
      · exact (rfl : (!(onceR ((x.2.1.take i).map (·.1) ++ [x.2.1[i].1]) _ && _)) = _)
      · rfl
    · dsimp only [impl_twice.S2, impl_twice.s2]
      refine tn (by omega) ?_
      rw [wrap_succ (by omega)]
      exact ih
    · dsimp only [impl_twice.S2, impl_twice.s2]
      refine tp (by omega) (ti hj ?_)
      rw [getD_in hj, wrap_succ (by omega)]
      exact tbif (fun c => tl (by rw [show isT _ _ = true from c]; rfl)) fun c => by rw [show isT _ _ = false from c]; exact ih2
theorem words_split : splitL (⟨#[116, 97, 98, 108, 101, 32, 112, 114, 105, 109, 97, 114, 121, 32, 117, 110, 105, 113, 117, 101, 32, 105, 110, 100, 101, 120, 32, 110, 117, 108, 108, 32, 100, 101, 115, 99, 32, 105, 110, 116, 32, 110, 117, 109, 32, 116, 101, 120, 116, 32, 98, 111, 111, 108]⟩ : ByteArray) = wordsL := by kernel_rfl
theorem impl_isFree.sp {d : Nat} (hd : 3 ≤ d) {s : ByteArray} (hs : s.size ≤ 140737488351232) : impl_isFree.f d s = some (freeM s) := by
  obtain ⟨d, rfl, _⟩ := dep hd
  rw [impl_isFree.t_eq]
  dsimp only [impl_isFree.m]
  obtain ⟨d, rfl, _⟩ := dep (show 1 + 1 ≤ d by omega)
  rw [strings_Split.t_eq]
  have e : splitLaw ((⟨#[116, 97, 98, 108, 101, 32, 112, 114, 105, 109, 97, 114, 121, 32, 117, 110, 105, 113, 117, 101, 32, 105, 110, 100, 101, 120, 32, 110, 117, 108, 108, 32, 100, 101, 115, 99, 32, 105, 110, 116, 32, 110, 117, 109, 32, 116, 101, 120, 116, 32, 98, 111, 111, 108]⟩ : ByteArray), (⟨#[32]⟩ : ByteArray)) = some wordsL := by
    unfold splitLaw
    rw [if_pos ⟨rfl, by decide⟩, words_split]
  refine Tells.eq (tc e ?_)
  have := loopStop (impl_isFree.S0 (d + 1)) wordsL (fun i => (s, (wordsL.length : Int), i, wordsL)) (fun w => isT w s) false (nameM s.size 0 (bytesOf s)) (by decide) (fun L => ?_) fun L i hi e ih => ?_
  · refine this.mono fun r hr => ?_
    rw [hr]; unfold freeM; cases (wordsL.any fun w => isT w s) <;> simp
  · dsimp only [impl_isFree.S0, impl_isFree.s0]
    exact tn (by omega) (tc (impl_nameOk.sp (by omega) hs) (tl rfl))
  · dsimp only [impl_isFree.S0, impl_isFree.s0]
    have h10 : wordsL.length = 10 := rfl
    refine tp (by omega) (ti hi ?_)
    rw [getD_in hi, wrap_succ (by omega)]
    exact tbif (fun c => tl (by rw [show isT wordsL[i] s = true from c]; rfl)) fun c => by rw [show isT wordsL[i] s = false from c]; exact ih
theorem impl_namesOk.sp {d : Nat} (hd : 4 ≤ d) {x : Df} (h : dfFit 140737488351232 x) : impl_namesOk.f d (x.1, x.2.1, x.2.2.1, x.2.2.2) = some (namesM x) := by
  obtain ⟨d, rfl, _⟩ := dep hd
  rw [impl_namesOk.t_eq]
  dsimp only [impl_namesOk.m]
  obtain ⟨h0, ⟨h1, h2⟩, h3, h4, h5⟩ := h
  refine Tells.eq (loopAnd (impl_namesOk.S0 d) x.2.1 (fun i => (x.2.1, (x.2.1.length : Int), i, x.1, x.2.1, x.2.2.1, x.2.2.2)) (fun c => freeM c.1) _ (by omega) (fun L => ?_) fun L i hi e ih => ?_)
  · dsimp only [impl_namesOk.S0, impl_namesOk.s0]
    refine tn (by omega) ?_
    refine loopAnd (impl_namesOk.S2 d) x.2.2.2 (fun i => (x.2.2.2, (x.2.2.2.length : Int), i, x.1, x.2.1, x.2.2.1, x.2.2.2)) (fun c => freeM c.1) _ (by omega) (fun L => ?_) fun L i hi e ih => ?_
    · dsimp only [impl_namesOk.S2, impl_namesOk.s2]
      exact tn (by omega) (tc (impl_isFree.sp (by omega) h0) (tl rfl))
    · dsimp only [impl_namesOk.S2, impl_namesOk.s2]
      refine tp (by omega) (ti hi ?_)
      rw [getD_in hi, wrap_succ (by omega)]
      refine tc (impl_isFree.sp (by omega) (h5 _ (List.getElem_mem hi)).1) ?_
      cases freeM x.2.2.2[i].1
      · exact tt rfl (tl rfl)
      · exact tf rfl ih
  · dsimp only [impl_namesOk.S0, impl_namesOk.s0]
    refine tp (by omega) (ti hi ?_)
    rw [getD_in hi, wrap_succ (by omega)]
    refine tc (impl_isFree.sp (by omega) (h2 _ (List.getElem_mem hi))) ?_
    cases freeM x.2.1[i].1
    · exact tt rfl (tl rfl)
    · exact tf rfl ih
def partsA (n : Int) (q : Nat → By → Bool) (e : Bool) : Nat → List By → Bool
  | _, [] => e
  | i, x :: r => inB x.1 0 (n - 1) && (!(q i x) && partsA n q e (i + 1) r)
theorem partsA_no (n : Int) (q : Nat → By → Bool) : ∀ (r : List By) (i : Nat), partsA n q false i r = false
  | [], _ => rfl
  | x :: r, i => by rw [partsA, partsA_no n q r]; simp
theorem partsA_eq {n : Int} {q : Nat → By → Bool} {l : List By} (h0 : ∀ a r, l = a :: r → q 0 a = false) (h1 : ∀ a b r, l = a :: b :: r → q 1 b = decide (a.1 = b.1)) : partsA n q (inB l.length 1 2) 0 l = partsM n l := by
  cases c : inB l.length 1 2 with
  | false => rw [partsA_no, partsM_not (by rw [c]; simp)]
  | true =>
    have := inB_iff.1 c
    match l, h0, h1, this with
    | [], _, _, h => simp at h
    | [a], h0, _, _ => simp [partsA, partsM, h0 a [] rfl]
    | [a, b], h0, h1, _ => simp [partsA, partsM, h0 a [b] rfl, h1 a b [] rfl]
    | _ :: _ :: _ :: r, _, _, h => simp only [List.length_cons] at h; omega
theorem spec_l9Parts.sp {d : Nat} (hd : 2 ≤ d) {x : Df} (hc : x.2.1.length ≤ 140737488351232) {l : List By} (hl : l.length ≤ 140737488351232) : spec_l9Parts.f d (x.1, x.2.1, x.2.2.1, x.2.2.2, l) = some (partsM x.2.1.length l) := by
  obtain ⟨d, rfl, _⟩ := dep hd
  rw [spec_l9Parts.t_eq]
  dsimp only [spec_l9Parts.m]
  have wr : IntKind.wrap IntKind.i64 ((x.2.1.length : Int) - 1) = (x.2.1.length : Int) - 1 := wrap_id (by omega) (by omega)
  have one : ∀ L i (hi : i < l.length) e, Tells (L (l, ((i + 1 : Nat) : Int), x.1, x.2.1, x.2.2.1, x.2.2.2)) (· = e) → Tells (spec_l9Parts.S0 d L (l, (i : Int), x.1, x.2.1, x.2.2.1, x.2.2.2)) (· = (inB l[i].1 0 ((x.2.1.length : Int) - 1) && (!(decide (0 < i) && decide (l[0].1 = l[i].1)) && e))) := by
    intro L i hi e ih
    dsimp only [spec_l9Parts.S0, spec_l9Parts.s0]
    refine tp (by omega) (ti hi ?_)
    rw [getD_in hi, wrap_succ (by omega), wr]
    refine tc (spec_l1In.sp (by omega) _ _ _) ?_
    cases inB l[i].1 0 ((x.2.1.length : Int) - 1)
    · exact tt rfl (tl rfl)
    refine tf rfl ?_
    by_cases c : i = 0
    · subst c
      exact tn (by omega) (ih.mono fun r hr => by rw [hr]; rfl)
    · refine tp (by omega) (tt (by simp; omega) (ti hi ?_))
      have h0 : 0 < l.length := by omega
      have e0 : List.getD l (Int.toNat (0 : Int)) ((0 : Int), false) = l[0] := getD_in h0
      rw [e0]
      refine tbif (fun c2 => tl ?_) fun c2 => ih.mono fun r hr => ?_
      · have c2 := beq_iff_eq.1 c2
        rw [decide_eq_true (show 0 < i by omega), decide_eq_true c2]; rfl
      · have c2 := beq_eq_false_iff_ne.1 c2
        rw [hr, decide_eq_false c2]; simp
  have last : ∀ L, Tells (spec_l9Parts.S0 d L (l, (l.length : Int), x.1, x.2.1, x.2.2.1, x.2.2.2)) (· = inB l.length 1 2) := fun L => by
    dsimp only [spec_l9Parts.S0, spec_l9Parts.s0]
    exact tn (by omega) (tc (spec_l1In.sp (by omega) _ _ _) (tl rfl))
  have g := loopL (spec_l9Parts.S0 d) l (fun i => (l, i, x.1, x.2.1, x.2.2.1, x.2.2.2)) (fun i r => partsA x.2.1.length (fun i y => decide (0 < i) && decide ((l.head?.map (·.1)) = some y.1)) (inB l.length 1 2) i r) (by omega) (fun L => (last L).mono fun r hr => hr) fun L i hi ih => (one L i hi _ ih).mono fun r hr => by
    rw [hr, partsA]
    have : l.head? = some l[0] := by rw [List.head?_eq_getElem?, List.getElem?_eq_getElem (by omega)]
    rw [this]
    simp
  refine Tells.eq (g.mono fun r hr => ?_)
  rw [hr]
  exact partsA_eq (fun a r h => by simp) fun a b r h => by rw [h]; simp
theorem impl_partsOk.sp {d : Nat} (hd : 2 ≤ d) {x : Df} (hc : x.2.1.length ≤ 140737488351232) {l : List By} (hl : l.length ≤ 140737488351232) : impl_partsOk.f d (x.1, x.2.1, x.2.2.1, x.2.2.2, l) = some (partsM x.2.1.length l) := by
  obtain ⟨d, rfl, _⟩ := dep hd
  rw [impl_partsOk.t_eq]
  dsimp only [impl_partsOk.m]
  have wr : IntKind.wrap IntKind.i64 ((x.2.1.length : Int) - 1) = (x.2.1.length : Int) - 1 := wrap_id (by omega) (by omega)
  have g := loopL (impl_partsOk.S0 d) l (fun i => (l, l, (l.length : Int), i, x.1, x.2.1, x.2.2.1, x.2.2.2)) (fun i r => partsA x.2.1.length (fun i y => (l.take i).any fun z => z.1 == y.1) (inB l.length 1 2) i r) (by omega) (fun L => ?_) fun L i hi ih => ?_
  · refine Tells.eq (g.mono fun r hr => ?_)
    rw [hr]
    exact partsA_eq (fun a r h => by simp) fun a b r h => by rw [h]; simp [Bool.beq_eq_decide_eq]
  · dsimp only [impl_partsOk.S0, impl_partsOk.s0]
    exact tn (by omega) (tc (impl_in.sp (by omega) _ _ _) (tl rfl))
  · dsimp only [impl_partsOk.S0, impl_partsOk.s0]
    have tk : (l.take i).length = i := by rw [List.length_take]; omega
    refine tp (by omega) (ti hi ?_)
    rw [getD_in hi, wr, Int.toNat_natCast, Int.toNat_zero, List.drop_zero, partsA]
    refine tc (impl_in.sp (by omega) _ _ _) ?_
    cases inB l[i].1 0 ((x.2.1.length : Int) - 1)
    · exact tt rfl (tl rfl)
    refine tf rfl (tt (by simp; omega) ?_)
    have := loopStop (impl_partsOk.S2 d L) (l.take i) (fun j => (l, l, (l.length : Int), (i : Int), l.take i, ((l.take i).length : Int), j, x.1, x.2.1, x.2.2.1, x.2.2.2, l[i].1, l[i].2)) (fun z => z.1 == l[i].1) false (partsA x.2.1.length (fun i y => (l.take i).any fun z => z.1 == y.1) (inB l.length 1 2) (i + 1) (l.drop (i + 1))) (by omega) (fun L2 => ?_) fun L2 j hj e ih2 => ?_
    · refine this.mono fun r hr => ?_
      rw [hr]
      cases (l.take i).any fun z => z.1 == l[i].1 <;> simp
    · dsimp only [impl_partsOk.S2, impl_partsOk.s2]
      refine tn (by omega) ?_
      rw [wrap_succ (by omega)]
      exact ih
    · dsimp only [impl_partsOk.S2, impl_partsOk.s2]
      refine tp (by omega) (ti hj ?_)
      rw [getD_in hj, wrap_succ (by omega)]
      exact tbif (fun c => tl (by rw [c]; rfl)) fun c => by rw [c]; exact ih2
theorem spec_l9AllParts.sp {d : Nat} (hd : 3 ≤ d) {x : Df} (h : dfFit 140737488351232 x) : spec_l9AllParts.f d (x.1, x.2.1, x.2.2.1, x.2.2.2) = some (allPartsM x) := by
  obtain ⟨d, rfl, _⟩ := dep hd
  rw [spec_l9AllParts.t_eq]
  dsimp only [spec_l9AllParts.m]
  obtain ⟨h0, ⟨h1, h2⟩, h3, h4, h5⟩ := h
  refine Tells.eq (loopAnd (spec_l9AllParts.S0 d) x.2.2.2 (fun i => (i, x.1, x.2.1, x.2.2.1, x.2.2.2)) (fun c => partsM x.2.1.length c.2.2) _ (by omega) (fun L => ?_) fun L i hi e ih => ?_)
  · dsimp only [spec_l9AllParts.S0, spec_l9AllParts.s0]
    exact tn (by omega) (tc (spec_l9Parts.sp (by omega) h1 h3) (tl rfl))
  · dsimp only [spec_l9AllParts.S0, spec_l9AllParts.s0]
    refine tp (by omega) (ti hi ?_)
    rw [getD_in hi, wrap_succ (by omega)]
    refine tc (spec_l9Parts.sp (by omega) h1 (h5 _ (List.getElem_mem hi)).2) ?_
    cases partsM x.2.1.length x.2.2.2[i].2.2
    · exact tt rfl (tl rfl)
    · exact tf rfl ih
theorem spec_CheckDef.sp {d : Nat} (hd : 6 ≤ d) {x : Df} (h : dfFit 140737488351232 x) : spec_CheckDef.f d (x.1, x.2.1, x.2.2.1, x.2.2.2) = some (checkM x) := by
  obtain ⟨d, rfl, _⟩ := dep hd
  rw [spec_CheckDef.t_eq]
  dsimp only [spec_CheckDef.m]
  unfold checkM
  refine Tells.eq (tc (spec_l9Names.sp (by omega) h) ?_)
  cases namesM x
  · exact tt rfl (tl rfl)
  refine tf rfl (tc (spec_l9Types.sp (by omega) h) ?_)
  cases typesM x.2.1
  · exact tt rfl (tl rfl)
  refine tf rfl (tc (spec_l9Once.sp (by omega) h) ?_)
  cases onceM x
  · exact tt rfl (tl rfl)
  refine tf rfl (tif (fun c => tl (by rw [decide_eq_true c]; rfl)) fun c => ?_)
  rw [decide_eq_false c]
  refine tc (spec_l9AllParts.sp (by omega) h) ?_
  cases c2 : allPartsM x
  · exact tt rfl (tl rfl)
  refine tf rfl ?_
  have pin := partsM_in (allParts_of c2).1
  have h3 := h.2.2.1
  refine loopStop (spec_CheckDef.S1 d) x.2.2.1 (fun i => (i, x.1, x.2.1, x.2.2.1, x.2.2.2)) (nullAt x.2.1) (4 : Int) (0 : Int) (by omega) (fun L => ?_) fun L i hi e ih => ?_
  · dsimp only [spec_CheckDef.S1, spec_CheckDef.s1]
    exact tn (by omega) (tl rfl)
  · dsimp only [spec_CheckDef.S1, spec_CheckDef.s1]
    refine tp (by omega) (ti hi ?_)
    rw [getD_in hi, wrap_succ (by omega)]
    have q := pin _ (List.getElem_mem hi)
    refine tt (by rw [decide_eq_true q.1, decide_eq_true q.2]; rfl) (tbif (fun c => tl ?_) fun c => ?_)
    · rw [show nullAt x.2.1 x.2.2.1[i] = true from c]; rfl
    · rw [show nullAt x.2.1 x.2.2.1[i] = false from c]; exact ih
theorem impl_CheckDef.sp {d : Nat} (hd : 5 ≤ d) {x : Df} (h : dfFit 140737488351232 x) : impl_CheckDef.f d (x.1, x.2.1, x.2.2.1, x.2.2.2) = some (checkM x) := by
  obtain ⟨d, rfl, _⟩ := dep hd
  rw [impl_CheckDef.t_eq]
  dsimp only [impl_CheckDef.m]
  have ⟨h0, ⟨h1, h2⟩, h3, h4, h5⟩ := h
  have e4 : partsM x.2.1.length x.2.2.1 = true → Tells (iter (impl_CheckDef.S4 d) rnds (x.2.2.1, (x.2.2.1.length : Int), (0 : Int), x.1, x.2.1, x.2.2.1, x.2.2.2)) (· = bif x.2.2.1.any (nullAt x.2.1) then 4 else 0) := fun c2 => by
    have pin := partsM_in c2
    refine loopStop (impl_CheckDef.S4 d) x.2.2.1 (fun i => (x.2.2.1, (x.2.2.1.length : Int), i, x.1, x.2.1, x.2.2.1, x.2.2.2)) (nullAt x.2.1) (4 : Int) (0 : Int) (by omega) (fun L => ?_) fun L i hi e ih => ?_
    · dsimp only [impl_CheckDef.S4, impl_CheckDef.s4]
      exact tn (by omega) (tl rfl)
    · dsimp only [impl_CheckDef.S4, impl_CheckDef.s4]
      refine tp (by omega) (ti hi ?_)
      rw [getD_in hi, wrap_succ (by omega)]
      have q := pin _ (List.getElem_mem hi)
      refine tt (by rw [decide_eq_true q.1, decide_eq_true q.2]; rfl) (tbif (fun c => tl ?_) fun c => ?_)
      · rw [show nullAt x.2.1 x.2.2.1[i] = true from c]; rfl
      · rw [show nullAt x.2.1 x.2.2.1[i] = false from c]; exact ih
  have e2 : Tells (iter (impl_CheckDef.S2 d) rnds (x.2.2.2, (x.2.2.2.length : Int), (0 : Int), x.1, x.2.1, x.2.2.1, x.2.2.2)) (· = bif allPartsM x then (bif x.2.2.1.any (nullAt x.2.1) then 4 else 0) else 5) := by
    have g := loopStop (impl_CheckDef.S2 d) x.2.2.2 (fun i => (x.2.2.2, (x.2.2.2.length : Int), i, x.1, x.2.1, x.2.2.1, x.2.2.2)) (fun c => !(partsM x.2.1.length c.2.2)) (5 : Int) (bif partsM x.2.1.length x.2.2.1 then (bif x.2.2.1.any (nullAt x.2.1) then 4 else 0) else 5) (by omega) (fun L => ?_) fun L i hi e ih => ?_
    · refine g.mono fun r hr => ?_
      rw [hr]
      unfold allPartsM
      rw [← List.not_all_eq_any_not]
      cases x.2.2.2.all (fun c => partsM x.2.1.length c.2.2) <;> cases partsM x.2.1.length x.2.2.1 <;> rfl
    · dsimp only [impl_CheckDef.S2, impl_CheckDef.s2]
      refine tn (by omega) (tc (impl_partsOk.sp (by omega) h1 h3) ?_)
      cases c : partsM x.2.1.length x.2.2.1
      · exact tt rfl (tl rfl)
      · exact tf rfl (e4 c)
    · dsimp only [impl_CheckDef.S2, impl_CheckDef.s2]
      refine tp (by omega) (ti hi ?_)
      rw [getD_in hi, wrap_succ (by omega)]
      refine tc (impl_partsOk.sp (by omega) h1 (h5 _ (List.getElem_mem hi)).2) ?_
      cases partsM x.2.1.length x.2.2.2[i].2.2
      · exact tt rfl (tl rfl)
      · exact tf rfl ih
  have e0 : Tells (iter (impl_CheckDef.S0 d) rnds (x.2.1, (x.2.1.length : Int), (0 : Int), x.1, x.2.1, x.2.2.1, x.2.2.2)) (· = bif x.2.1.any (fun c => !(inB c.2.1 1 4)) then 2 else bif onceM x then (bif decide ((x.2.2.2.length : Int) > 2) then 6 else bif allPartsM x then (bif x.2.2.1.any (nullAt x.2.1) then 4 else 0) else 5) else 3) := by
    refine loopStop (impl_CheckDef.S0 d) x.2.1 (fun i => (x.2.1, (x.2.1.length : Int), i, x.1, x.2.1, x.2.2.1, x.2.2.2)) (fun c => !(inB c.2.1 1 4)) (2 : Int) _ (by omega) (fun L => ?_) fun L i hi e ih => ?_
    · dsimp only [impl_CheckDef.S0, impl_CheckDef.s0]
      refine tn (by omega) (tc (impl_twice.sp (by omega) h) ?_)
      cases onceM x
      · exact tt rfl (tl rfl)
      · exact tf rfl (tif (fun c => tl (by rw [decide_eq_true c]; rfl)) fun c => by rw [decide_eq_false c]; exact e2)
    · dsimp only [impl_CheckDef.S0, impl_CheckDef.s0]
      refine tp (by omega) (ti hi ?_)
      rw [getD_in hi, wrap_succ (by omega)]
      refine tc (impl_in.sp (by omega) _ _ _) ?_
      cases inB x.2.1[i].2.1 1 4
      · exact tt rfl (tl rfl)
      · exact tf rfl ih
  unfold checkM
  refine Tells.eq (tc (impl_namesOk.sp (by omega) h) ?_)
  cases namesM x
  · exact tt rfl (tl rfl)
  refine tf rfl (tc (impl_in.sp (by omega) _ _ _) ?_)
  unfold typesM
  cases inB x.2.1.length 1 6
  · exact tt rfl (tl (by rw [Bool.and_false]; rfl))
  refine tf rfl (e0.mono fun r hr => ?_)
  rw [hr, ← List.not_all_eq_any_not, Bool.and_true]
  cases x.2.1.all fun c => inB c.2.1 1 4 <;> rfl
theorem tneq {a b : Int} {α : Type} {x y : Option α} {Q : α → Prop} (h1 : a ≠ b → Tells x Q) (h2 : a = b → Tells y Q) : Tells (bif a != b then x else y) Q := by
  by_cases h : a = b
  · subst h; exact tf (by simp) (h2 rfl)
  · exact tt (by simp [h]) (h1 h)
theorem teq {a b : Int} {α : Type} {x y : Option α} {Q : α → Prop} (h1 : a = b → Tells x Q) (h2 : a ≠ b → Tells y Q) : Tells (bif a == b then x else y) Q := by
  by_cases h : a = b
  · subst h; exact tt (by simp) (h1 rfl)
  · exact tf (by simp [h]) (h2 h)
/-- A table whose rows and texts are small. -/
def tabD (n : Nat) (x : Df) : Prop := x.1.size ≤ 100 ∧ (x.2.1.length ≤ n ∧ ∀ c ∈ x.2.1, c.1.size ≤ 100) ∧ x.2.2.1.length ≤ n ∧ (x.2.2.2.length ≤ n ∧ ∀ y ∈ x.2.2.2, y.1.size ≤ 100 ∧ y.2.2.length ≤ n)
theorem tabD.fit {n : Nat} (hn : n ≤ 1000) {x : Df} (h : tabD n x) : dfFit 1048576 x := by
  obtain ⟨h0, ⟨h1, h2⟩, h3, h4, h5⟩ := h
  exact ⟨by omega, ⟨by omega, fun c hc => by have := h2 c hc; omega⟩, by omega, by omega, fun y hy => by have := h5 y hy; omega⟩
theorem tabD.big {n : Nat} (hn : n ≤ 1000) {x : Df} (h : tabD n x) : dfFit 140737488351232 x := (h.fit hn).mono (by decide)
theorem mem_snoc {β : Type} {l : List β} {y : β} {Q : β → Prop} (h : ∀ x ∈ l, Q x) (hy : Q y) : ∀ x ∈ l ++ [y], Q x := by
  intro x hx
  rcases List.mem_append.1 hx with hx | hx
  · exact h x hx
  · rw [List.mem_singleton] at hx; rw [hx]; exact hy
theorem set_all {β : Type} {l : List β} {i : Nat} {y : β} {Q : β → Prop} (h : ∀ x ∈ l, Q x) (hy : Q y) : ∀ x ∈ l.set i y, Q x := by
  intro x hx
  rcases List.mem_or_eq_of_mem_set hx with hx | hx
  · exact h x hx
  · rw [hx]; exact hy
theorem spec_l1Str.sp {d : Nat} (hd : 3 ≤ d) {b : List Int} {p x : Int} {l : List ByteArray} (hc : cur b p) (h0 : 0 < l.length) : Tells (spec_l1Str.f d (b, p, x, l)) fun r => r.1 ∈ l ∧ cur b r.2.1 := by
  obtain ⟨d, rfl, _⟩ := dep hd
  rw [spec_l1Str.t_eq]
  dsimp only [spec_l1Str.m]
  refine tb (spec_l1Below.sp (by omega) hc) fun r hr => ?_
  have hlt := hr.2.1 (by omega)
  refine tt (by rw [decide_eq_true hr.1, decide_eq_true hlt]; rfl) (tl ⟨at_mem hr.1 hlt, hr.2.2⟩)
theorem spec_l9Draw2.sp {d : Nat} (hd : 4 ≤ d) {b : List Int} {p x n : Int} (hc : cur b p) (h1 : 1 ≤ n) (h2 : n ≤ 1000) : Tells (spec_l9Draw2.f d (b, p, x, n)) fun r => partsM n r.1 = true ∧ cur b r.2.1 := by
  obtain ⟨d, rfl, _⟩ := dep hd
  rw [spec_l9Draw2.t_eq]
  dsimp only [spec_l9Draw2.m]
  refine tb (spec_l1Below.sp (by omega) hc) fun r1 h1 => tb (spec_l1Once.sp (by omega) h1.2.2) fun r2 h2 => ?_
  have a0 := h1.1
  have a1 := h1.2.1 (by omega)
  have one : ∀ c, partsM n [(r1.1, c)] = true := fun c => inB_iff.2 ⟨a0, by omega⟩
  refine tif (fun c => tb (spec_l1Once.sp (by omega) h2) fun r3 h3 => tbif (fun _ => tp (by omega) (tb (spec_l1Once.sp (by omega) h3) fun r4 h4 => tp (by simp) (tl ⟨?_, h4⟩))) fun _ => tl ⟨one _, h3⟩) fun _ => tl ⟨one _, h2⟩
  show partsM n [(r1.1, r2.1), (Int.tmod (IntKind.wrap IntKind.i64 (r1.1 + 1)) n, r4.1)] = true
  rw [wrap_id (by omega) (by omega), Int.tmod_eq_emod_of_nonneg (by omega)]
  have m0 := Int.emod_nonneg (r1.1 + 1) (show n ≠ 0 by omega)
  have m1 := Int.emod_lt_of_pos (r1.1 + 1) (show 0 < n by omega)
  have ne : r1.1 ≠ (r1.1 + 1) % n := by
    by_cases e : r1.1 + 1 = n
    · rw [e, Int.emod_self]; omega
    · rw [Int.emod_eq_of_lt (by omega) (by omega)]; omega
  simp only [partsM, Bool.and_eq_true]
  exact ⟨inB_iff.2 ⟨a0, by omega⟩, inB_iff.2 ⟨m0, by omega⟩, by rw [decide_eq_false ne]; rfl⟩
def nmL : List ByteArray := [(⟨#[97]⟩ : ByteArray), (⟨#[98]⟩ : ByteArray), (⟨#[99]⟩ : ByteArray)]
def nmC : List ByteArray := [(⟨#[105, 100]⟩ : ByteArray), (⟨#[97]⟩ : ByteArray), (⟨#[98]⟩ : ByteArray), (⟨#[99]⟩ : ByteArray)]
def uvL : List ByteArray := [(⟨#[117]⟩ : ByteArray), (⟨#[118]⟩ : ByteArray)]
/-- the columns of a drawn table -/
def colsD (k : Nat) (cs : List Col) : Prop := cs.map (·.1) = nmC.take k ∧ (∀ c ∈ cs, inB c.2.1 1 4 = true) ∧ (colAt cs 0).2.2 = false
def primD (cs : List Col) (ps : List By) : Prop := ps.any (nullAt cs) = false ∧ partsM cs.length ps = true
def idxD (cs : List Col) (xs : List Ix) : Prop := (xs.map (·.1) = [] ∨ (∃ u ∈ uvL, xs.map (·.1) = [u ++ (⟨#[98]⟩ : ByteArray)]) ∨ ∃ u ∈ uvL, ∃ v ∈ uvL, xs.map (·.1) = [u ++ (⟨#[99]⟩ : ByteArray), v ++ (⟨#[98]⟩ : ByteArray)]) ∧ ∀ x ∈ xs, partsM cs.length x.2.2 = true
def drawn (name : ByteArray) (x : Df) : Prop := x.1 = name ∧ (∃ k, 2 ≤ k ∧ k ≤ 4 ∧ colsD k x.2.1) ∧ primD x.2.1 x.2.2.1 ∧ idxD x.2.1 x.2.2.2
theorem colsD_len {k : Nat} {cs : List Col} (h : colsD k cs) (hk : k ≤ 4) : cs.length = k := by
  have := congrArg List.length h.1
  rw [List.length_map, List.length_take] at this
  have e : nmC.length = 4 := rfl
  omega
theorem spec_l9Draw.two {d : Nat} (hd : 4 ≤ d) {b : List Int} {ci h : Int} (hc : cur b ci) (e : ByteArray) (z1 : List Col) (z2 : List By) (z3 : List Ix) {name : ByteArray} {cs : List Col} {k : Nat} (h2 : 2 ≤ k) (h4 : k ≤ 4) (hcs : colsD k cs) {ps : List By} (hp : primD cs ps) {n : Int} (n0 : 0 ≤ n) (n2 : n ≤ 2) :
    Tells (iter (spec_l9Draw.S2 d) rnds (n, b, ci, h, e, z1, z2, z3, name, cs, ps, ([] : List Ix), nmL)) fun r => drawn name (r.1, r.2.1, r.2.2.1, r.2.2.2.1) ∧ cur b r.2.2.2.2.1 := by
  have cl := colsD_len hcs h4
  have stop : ∀ L ci h xs, cur b ci → idxD cs xs → Tells (spec_l9Draw.S2 d L ((0 : Int), b, ci, h, e, z1, z2, z3, name, cs, ps, xs, nmL)) fun r => drawn name (r.1, r.2.1, r.2.2.1, r.2.2.2.1) ∧ cur b r.2.2.2.2.1 := fun L ci h xs hc hx => by
    dsimp only [spec_l9Draw.S2, spec_l9Draw.s2]
    exact tn (by omega) (tl ⟨⟨rfl, ⟨k, h2, h4, hcs⟩, hp, hx⟩, hc⟩)
  have go : ∀ (i : Int) (w : ByteArray) L ci h xs Q, (0 < i ∧ i < 3) → List.getD nmL (Int.toNat i) ByteArray.empty = w → w.size = 1 → xs.length ≤ 2 → cur b ci → (∀ u t ys ci' h', u ∈ uvL → partsM cs.length ys = true → cur b ci' → Tells (L (i - 1, b, ci', h', e, z1, z2, z3, name, cs, ps, xs ++ [(u ++ w, t, ys)], nmL)) Q) → Tells (spec_l9Draw.S2 d L (i, b, ci, h, e, z1, z2, z3, name, cs, ps, xs, nmL)) Q := fun i w L ci h xs Q hi hw w1 hx hc ih => by
    dsimp only [spec_l9Draw.S2, spec_l9Draw.s2]
    refine tp (by omega) (tb (spec_l1Str.sp (l := uvL) (by omega) hc (by decide)) fun r hr => tt ?_ ?_)
    · have l3 : (nmL.length : Int) = 3 := rfl
      rw [decide_eq_true (show (0 : Int) ≤ i by omega), decide_eq_true (show i < (nmL.length : Int) by omega)]; rfl
    rw [hw]
    have us : r.1.size = 1 := by
      have := hr.1
      simp only [uvL, List.mem_cons, List.not_mem_nil, or_false] at this
      rcases this with e | e <;> rw [e] <;> rfl
    refine tp ?_ (tb (spec_l1Once.sp (by omega) hr.2) fun r2 g2 => tb (spec_l9Draw2.sp (by omega) g2 (by omega) (by omega)) fun r3 g3 => tp ?_ ?_)
    · rw [us, w1]; decide
    · simp only [List.length_cons, List.length_nil]; omega
    · rw [wrap_id (by omega) (by omega)]
      exact ih _ _ _ _ _ hr.1 g3.1 g3.2
  obtain ⟨R, hR⟩ : ∃ R, rnds = R + 1 + 1 + 1 := ⟨rnds - 3, by have := rnds_gt (n := 5) (by decide); omega⟩
  rw [hR]
  have : n = 0 ∨ n = 1 ∨ n = 2 := by omega
  rcases this with rfl | rfl | rfl
  · simp only [iter]
    exact stop _ _ _ _ hc ⟨.inl rfl, fun x hx => by cases hx⟩
  · simp only [iter]
    refine go 1 (⟨#[98]⟩ : ByteArray) _ _ _ _ _ (by omega) rfl rfl (by simp) hc fun u t ys ci' h' hu hy hc' => ?_
    exact stop _ _ _ _ hc' ⟨.inr (.inl ⟨u, hu, rfl⟩), by simpa using hy⟩
  · simp only [iter]
    refine go 2 (⟨#[99]⟩ : ByteArray) _ _ _ _ _ (by omega) rfl rfl (by simp) hc fun u t ys ci' h' hu hy hc' => ?_
    refine go 1 (⟨#[98]⟩ : ByteArray) _ _ _ _ _ (by omega) rfl rfl (by simp) hc' fun v t2 ys2 ci2 h2 hv hy2 hc2 => ?_
    exact stop _ _ _ _ hc2 ⟨.inr (.inr ⟨u, hu, v, hv, rfl⟩), by simpa using ⟨hy, hy2⟩⟩
theorem colAt_snoc0 {cs : List Col} {c : Col} (h : 0 < cs.length) : colAt (cs ++ [c]) 0 = colAt cs 0 := by
  unfold colAt
  cases cs with
  | nil => simp at h
  | cons x r => rfl
theorem spec_l9Draw.sp {d : Nat} (hd : 5 ≤ d) {b : List Int} {ci h : Int} (hc : cur b ci) (name : ByteArray) : Tells (spec_l9Draw.f d (b, ci, h, name)) fun r => drawn name (r.1, r.2.1, r.2.2.1, r.2.2.2.1) ∧ cur b r.2.2.2.2.1 := by
  obtain ⟨d, rfl, _⟩ := dep hd
  rw [spec_l9Draw.t_eq]
  dsimp only [spec_l9Draw.m]
  refine tb (spec_l1Int.sp (by omega) hc (by simp)) fun r hr => ?_
  have key : ∀ (R i : Nat) (ci h : Int) (cs : List Col), i ≤ 3 → 3 - i < R → cur b ci → colsD (i + 1) cs → Tells (iter (spec_l9Draw.S0 d) R ((i : Int), b, ci, h, ByteArray.empty, ([] : List Col), ([] : List By), ([] : List Ix), name, cs, ([] : List By), ([] : List Ix), nmL)) fun r => drawn name (r.1, r.2.1, r.2.2.1, r.2.2.2.1) ∧ cur b r.2.2.2.2.1 := by
    intro R
    induction R with
    | zero => intro i ci h cs h1 h2; omega
    | succ R ih =>
      intro i ci h cs hi hR hc hcs
      have cl := colsD_len hcs (by omega)
      have l3 : nmL.length = 3 := rfl
      simp only [iter]
      dsimp only [spec_l9Draw.S0, spec_l9Draw.s0]
      refine tb (spec_l1Below.sp (by omega) hc) fun r2 g2 => ?_
      have a0 := g2.1
      have a1 := g2.2.1 (by omega)
      rw [wrap_id (x := 1 + r2.1) (by omega) (by omega)]
      refine tif (fun c => tp (by omega) (ti (by omega) ?_)) fun c => ?_
      · refine tb (spec_l1Below.sp (by omega) g2.2.2) fun r3 g3 => tb (spec_l1Once.sp (by omega) g3.2.2) fun r4 g4 => ?_
        have b0 := g3.1
        have b1 := g3.2.1 (by omega)
        rw [getD_in (show i < nmL.length by omega), wrap_succ (by omega), wrap_id (x := 1 + r3.1) (by omega) (by omega)]
        refine tp (by simp only [List.length_cons, List.length_nil]; omega) (ih (i + 1) _ _ _ (by omega) (by omega) g4 ⟨?_, mem_snoc hcs.2.1 (inB_iff.2 ⟨by simp only; omega, by simp only; omega⟩), ?_⟩)
        · rw [List.map_append, hcs.1]
          have : i = 0 ∨ i = 1 ∨ i = 2 := by omega
          rcases this with e | e | e <;> subst e <;> rfl
        · rw [colAt_snoc0 (by omega)]; exact hcs.2.2
      · refine tb (spec_l1Once.sp (by omega) g2.2.2) fun r5 g5 => tt ?_ ?_
        · rw [decide_eq_true (show (1 : Int) < (cs.length : Int) by omega)]; rfl
        have c0 : (colAt cs 0).2.2 = false := hcs.2.2
        have p0 : ∀ q, primD cs [((0 : Int), q)] := fun q => ⟨by simp [nullAt, c0], inB_iff.2 ⟨by simp only; omega, by simp only; omega⟩⟩
        refine tbif (fun e => tb (spec_l1Once.sp (by omega) g5) fun r6 g6 => tbif (fun _ => tb (spec_l1Once.sp (by omega) g6) fun r7 g7 => tp (by simp) (tb (spec_l1Below.sp (by omega) g7) fun r8 g8 => ?_)) fun _ => tb (spec_l1Below.sp (by omega) g6) fun r8 g8 => ?_) fun e => tb (spec_l1Below.sp (by omega) g5) fun r8 g8 => ?_
        · have c1 : (colAt cs 1).2.2 = false := by
            have e : (!(colAt cs 1).2.2) = true := e
            simpa using e
          refine spec_l9Draw.two (k := i + 1) (by omega) g8.2.2 _ _ _ _ (by omega) (by omega) hcs ⟨?_, ?_⟩ g8.1 (by have := g8.2.1 (by omega); omega)
          · simp [nullAt, c0, c1]
          · simp only [List.cons_append, List.nil_append, partsM, Bool.and_eq_true]
            exact ⟨inB_iff.2 ⟨by omega, by omega⟩, inB_iff.2 ⟨by omega, by omega⟩, by simp⟩
        · exact spec_l9Draw.two (k := i + 1) (by omega) g8.2.2 _ _ _ _ (by omega) (by omega) hcs (p0 _) g8.1 (by have := g8.2.1 (by omega); omega)
        · exact spec_l9Draw.two (k := i + 1) (by omega) g8.2.2 _ _ _ _ (by omega) (by omega) hcs (p0 _) g8.1 (by have := g8.2.1 (by omega); omega)
  refine key rnds 0 _ _ _ (by omega) (rnds_gt (by decide)) hr.2 ⟨rfl, ?_, rfl⟩
  intro c hc
  rw [List.mem_singleton] at hc
  rw [hc]
  have := hr.1
  simp only [List.mem_cons, List.not_mem_nil, or_false] at this
  exact inB_iff.2 ⟨by simp only; omega, by simp only; omega⟩
theorem idx_names {cs : List Col} {xs : List Ix} (h : idxD cs xs) : (∀ x ∈ xs, freeM x.1 = true) ∧ onceR [] (xs.map (·.1)) = true ∧ xs.length ≤ 2 ∧ ∀ x ∈ xs, x.1.size ≤ 100 := by
  have f1 : ∀ u ∈ uvL, freeM (u ++ (⟨#[98]⟩ : ByteArray)) = true ∧ (u ++ (⟨#[98]⟩ : ByteArray)).size ≤ 100 := by decide +kernel
  have f2 : ∀ u ∈ uvL, freeM (u ++ (⟨#[99]⟩ : ByteArray)) = true ∧ (u ++ (⟨#[99]⟩ : ByteArray)).size ≤ 100 := by decide +kernel
  have o1 : ∀ u ∈ uvL, onceR [] [u ++ (⟨#[98]⟩ : ByteArray)] = true := by decide +kernel
  have o2 : ∀ u ∈ uvL, ∀ v ∈ uvL, onceR [] [u ++ (⟨#[99]⟩ : ByteArray), v ++ (⟨#[98]⟩ : ByteArray)] = true := by decide +kernel
  have mm : ∀ {P : ByteArray → Prop} {l : List ByteArray}, xs.map (·.1) = l → (∀ s ∈ l, P s) → ∀ x ∈ xs, P x.1 := fun e hp x hx => hp _ (e ▸ List.mem_map_of_mem (f := fun y : Ix => y.1) hx)
  have ll : ∀ {l : List ByteArray}, xs.map (·.1) = l → xs.length = l.length := fun e => by rw [← e, List.length_map]
  rcases h.1 with e | ⟨u, hu, e⟩ | ⟨u, hu, v, hv, e⟩
  · have := ll e
    exact ⟨mm (P := fun s => freeM s = true) e (fun s hs => by cases hs), by rw [e]; rfl, by rw [this]; decide, mm (P := fun s => s.size ≤ 100) e (fun s hs => by cases hs)⟩
  · have := ll e
    have one : ∀ {P : ByteArray → Prop}, P (u ++ (⟨#[98]⟩ : ByteArray)) → ∀ s ∈ [u ++ (⟨#[98]⟩ : ByteArray)], P s := fun h s hs => by rw [List.mem_singleton] at hs; rw [hs]; exact h
    exact ⟨mm (P := fun s => freeM s = true) e (one (P := fun s => freeM s = true) (f1 u hu).1), by rw [e]; exact o1 u hu, by rw [this]; simp, mm (P := fun s => s.size ≤ 100) e (one (P := fun s => s.size ≤ 100) (f1 u hu).2)⟩
  · have := ll e
    have two : ∀ {P : ByteArray → Prop}, P (u ++ (⟨#[99]⟩ : ByteArray)) → P (v ++ (⟨#[98]⟩ : ByteArray)) → ∀ s ∈ [u ++ (⟨#[99]⟩ : ByteArray), v ++ (⟨#[98]⟩ : ByteArray)], P s := fun h h2 s hs => by
      rcases List.mem_cons.1 hs with e | hs
      · rw [e]; exact h
      · rw [List.mem_singleton.1 hs]; exact h2
    exact ⟨mm (P := fun s => freeM s = true) e (two (P := fun s => freeM s = true) (f2 u hu).1 (f1 v hv).1), by rw [e]; exact o2 u hu v hv, by rw [this]; simp, mm (P := fun s => s.size ≤ 100) e (two (P := fun s => s.size ≤ 100) (f2 u hu).2 (f1 v hv).2)⟩
theorem drawn.names {name : ByteArray} {x : Df} (h : drawn name x) : ∀ c ∈ x.2.1, c.1 ∈ nmC := by
  obtain ⟨_, ⟨k, _, _, hk, _⟩, _⟩ := h
  intro c hc
  have := List.mem_map_of_mem (f := fun y : Col => y.1) hc
  rw [hk] at this
  exact List.mem_of_mem_take this
theorem drawn.tab {name : ByteArray} {x : Df} (h : drawn name x) (hs : name.size ≤ 100) : tabD 5 x := by
  have hn := h.names
  obtain ⟨e, ⟨k, k2, k4, hc⟩, hp, hx⟩ := h
  have cl := colsD_len hc k4
  have ix := idx_names hx
  have ns : ∀ s ∈ nmC, s.size ≤ 100 := by decide
  have := partsM_len hp.2
  exact ⟨by rw [e]; exact hs, ⟨by omega, fun c hc => ns _ (hn c hc)⟩, by omega, by omega, fun y hy => ⟨ix.2.2.2 y hy, by have := partsM_len (hx.2 y hy); omega⟩⟩
theorem spec_l2Num.small {d : Nat} (hd : 1 ≤ d) {n : Int} (h0 : 0 ≤ n) (h1 : n < 10) : Tells (spec_l2Num.f d n) fun s => s.size = 1 := by
  obtain ⟨d, rfl, _⟩ := dep hd
  rw [spec_l2Num.t_eq]
  dsimp only [spec_l2Num.m]
  exact tn (by omega) (tp h1 (tl (strOfNums_size _)))
theorem str_in {s : ByteArray} {l : List ByteArray} (h : s ∈ l) (hl : ∀ x ∈ l, x.size ≤ 100) : s.size ≤ 100 := hl s h
theorem spec_l9Any.sp {d : Nat} (hd : 6 ≤ d) {b : List Int} {ci h : Int} (hc : cur b ci) : Tells (spec_l9Any.f d (b, ci, h)) fun r => tabD 7 (r.1, r.2.1, r.2.2.1, r.2.2.2.1) ∧ cur b r.2.2.2.2.1 := by
  obtain ⟨d, rfl, _⟩ := dep hd
  rw [spec_l9Any.t_eq]
  dsimp only [spec_l9Any.m]
  refine tb (spec_l9Draw.sp (by omega) hc _) fun r1 g1 => ?_
  obtain ⟨a, cs, ps, xs, c1, h1⟩ := r1
  obtain ⟨dr, cc⟩ := g1
  have dt := dr.tab (by decide)
  obtain ⟨t0, ⟨t1, t2⟩, t3, t4, t5⟩ := dt
  obtain ⟨_, ⟨k, k2, k4, hcs⟩, hp, _⟩ := dr
  simp only at t0 t1 t2 t3 t4 t5 cc hcs hp ⊢
  have cl := colsD_len hcs k4
  have pl := partsM_len hp.2
  have t5' : ∀ y ∈ xs, y.1.size ≤ 100 ∧ y.2.2.length ≤ 7 := fun y hy => by have := t5 y hy; omega
  refine tb (spec_l1Below.sp (by omega) cc) fun r2 g2 => tb (spec_l1Below.sp (by omega) g2.2.2) fun r3 g3 => ?_
  have q1 := g2.1
  have q2 := g2.2.1 (by omega)
  have rc : (List.getD cs (Int.toNat r2.1) (ByteArray.empty, (0 : Int), false)).1.size ≤ 100 := t2 _ (at_mem q1 q2)
  have ii : (decide (0 ≤ r2.1) && decide (r2.1 < (cs.length : Int))) = true := by rw [decide_eq_true q1, decide_eq_true q2]; rfl
  refine teq (fun _ => tb (spec_l1Str.sp (by omega) g3.2.2 (by simp)) fun r4 g4 => tl ⟨⟨str_in g4.1 (by decide), ⟨by simp only; omega, t2⟩, by simp only; omega, by simp only; omega, t5'⟩, g4.2⟩) fun _ => ?_
  refine teq (fun _ => tb (spec_l1Str.sp (by omega) g3.2.2 (by simp)) fun r4 g4 => tt ii (tl ⟨⟨t0, ⟨by simp only [List.length_set]; omega, set_all t2 (str_in g4.1 (by decide))⟩, by simp only; omega, by simp only; omega, t5'⟩, g4.2⟩)) fun _ => ?_
  refine teq (fun _ => tb (spec_l1Below.sp (by omega) g3.2.2) fun r4 g4 => tt ii (tl ⟨⟨t0, ⟨by simp only [List.length_set]; omega, set_all t2 rc⟩, by simp only; omega, by simp only; omega, t5'⟩, g4.2.2⟩)) fun _ => ?_
  refine teq (fun _ => tt ii (tt ii (tl ⟨⟨t0, ⟨by simp only [List.length_set]; omega, set_all t2 rc⟩, by simp only; omega, by simp only; omega, t5'⟩, g3.2.2⟩))) fun _ => ?_
  refine teq (fun _ => ?_) fun _ => ?_
  · rw [wrap_id (by omega) (by omega)]
    exact tb (spec_l9Draw2.sp (by omega) g3.2.2 (by omega) (by omega)) fun r4 g4 => tl ⟨⟨t0, ⟨by simp only; omega, t2⟩, by have := partsM_len g4.1; simp only; omega, by simp only; omega, t5'⟩, g4.2⟩
  refine teq (fun _ => tt (by rw [decide_eq_true (show (0 : Int) < (ps.length : Int) by omega)]; rfl) (tp (by simp only [List.length_cons, List.length_nil]; omega) (tl ⟨⟨t0, ⟨by simp only; omega, t2⟩, by simp only [List.length_append, List.length_cons, List.length_nil]; omega, by simp only; omega, t5'⟩, g3.2.2⟩))) fun _ => ?_
  refine teq (fun _ => tb (spec_l1Str.sp (by omega) g3.2.2 (by simp)) fun r4 g4 => ?_) fun _ => ?_
  · rw [wrap_id (by omega) (by omega)]
    refine tb (spec_l9Draw2.sp (by omega) g4.2 (by omega) (by omega)) fun r5 g5 => tp (by simp only [List.length_cons, List.length_nil]; omega) (tl ⟨⟨t0, ⟨by simp only; omega, t2⟩, by simp only; omega, by simp only [List.length_append, List.length_cons, List.length_nil]; omega, mem_snoc t5' ⟨str_in g4.1 (by decide), ?_⟩⟩, g5.2⟩)
    have := partsM_len g5.1; simp only; omega
  refine teq (fun _ => tb (spec_l1Below.sp (by omega) g3.2.2) fun r4 g4 => tt ?_ (tl ⟨⟨t0, ⟨by simp only [List.length_take]; omega, fun c hc => t2 c (List.mem_of_mem_take hc)⟩, by simp only; omega, by simp only; omega, t5'⟩, g4.2.2⟩)) fun _ => ?_
  · have := g4.2.1 (by omega)
    rw [decide_eq_true g4.1, decide_eq_true (show r4.1 ≤ (cs.length : Int) by omega)]; rfl
  refine teq (fun _ => ?_) fun _ => tl ⟨⟨t0, ⟨by simp only; omega, t2⟩, by simp only; omega, by simp only; omega, t5'⟩, g3.2.2⟩
  have key : ∀ (R : Nat) (ci h : Int) (cs : List Col), cs.length ≤ 7 → 7 - cs.length < R → (∀ c ∈ cs, c.1.size ≤ 100) → cur b ci → Tells (iter (spec_l9Any.S1 d) R (b, ci, h, ByteArray.empty, ([] : List Col), ([] : List By), ([] : List Ix), a, cs, ps, xs)) fun r => tabD 7 (r.1, r.2.1, r.2.2.1, r.2.2.2.1) ∧ cur b r.2.2.2.2.1 := by
    intro R
    induction R with
    | zero => intro ci h cs h1 h2; omega
    | succ R ih =>
      intro ci h cs h1 h2 h3 hc
      simp only [iter]
      dsimp only [spec_l9Any.S1, spec_l9Any.s1]
      refine tb (spec_l1Below.sp (by omega) hc) fun r5 g5 => ?_
      have b0 := g5.1
      have b1 := g5.2.1 (by omega)
      rw [wrap_id (by omega) (by omega)]
      refine tif (fun c => tb (spec_l2Num.small (by omega) (by omega) (by omega)) fun s hs => tp ?_ (tp ?_ ?_)) fun c => tl ⟨⟨t0, ⟨h1, h3⟩, by simp only; omega, by simp only; omega, t5'⟩, g5.2.2⟩
      · rw [hs]; decide
      · simp only [List.length_cons, List.length_nil]; omega
      · refine ih _ _ _ (by simp only [List.length_append, List.length_cons, List.length_nil]; omega) (by simp only [List.length_append, List.length_cons, List.length_nil]; omega) (mem_snoc h3 ?_) g5.2.2
        show ((⟨#[122]⟩ : ByteArray) ++ s).size ≤ 100
        rw [ByteArray.size_append, hs]; decide
  exact key rnds _ _ cs (by omega) (rnds_gt (by omega)) t2 g3.2.2
theorem impl_sameParts.sp {d : Nat} (hd : 1 ≤ d) {a b : List By} (ha : a.length ≤ 140737488351232) : impl_sameParts.f d (a, b) = some (samePts a b) := by
  obtain ⟨d, rfl, _⟩ := dep hd
  rw [impl_sameParts.t_eq]
  dsimp only [impl_sameParts.m]
  unfold samePts
  refine Tells.eq (tneq (fun h => tl (by rw [decide_eq_false h]; rfl)) fun h => ?_)
  rw [decide_eq_true h, Bool.true_and]
  have g := loopL (impl_sameParts.S0 d) a (fun i => (a, b, (a.length : Int), i)) (fun i (r : List By) => samePt r (b.drop i)) (by omega) (fun L => ?_) fun L i hi ih => ?_
  · exact g
  · dsimp only [impl_sameParts.S0, impl_sameParts.s0]
    exact tn (by omega) (tl (by rw [samePt]; simp))
  · dsimp only [impl_sameParts.S0, impl_sameParts.s0]
    have hb : i < b.length := by omega
    refine tp (by omega) (ti hi (ti hb ?_))
    rw [getD_in hi, getD_in hb, wrap_succ (by omega), drop_at hb, samePt]
    cases c : (a[i].1 == b[i].1 && a[i].2 == b[i].2)
    · exact tt rfl (tl rfl)
    · exact tf rfl ih
theorem spec_l9SameParts.sp {d : Nat} (hd : 1 ≤ d) {a b : List By} (ha : a.length ≤ 140737488351232) : spec_l9SameParts.f d (a, b) = some (samePts a b) := by
  obtain ⟨d, rfl, _⟩ := dep hd
  rw [spec_l9SameParts.t_eq]
  dsimp only [spec_l9SameParts.m]
  unfold samePts
  refine Tells.eq (tneq (fun h => tl (by rw [decide_eq_false h]; rfl)) fun h => ?_)
  rw [decide_eq_true h, Bool.true_and]
  have g := loopL (spec_l9SameParts.S0 d) a (fun i => (a, b, i)) (fun i (r : List By) => samePt r (b.drop i)) (by omega) (fun L => ?_) fun L i hi ih => ?_
  · exact g
  · dsimp only [spec_l9SameParts.S0, spec_l9SameParts.s0]
    exact tn (by omega) (tl (by rw [samePt]; simp))
  · dsimp only [spec_l9SameParts.S0, spec_l9SameParts.s0]
    have hb : i < b.length := by omega
    refine tp (by omega) (ti hi (ti hb ?_))
    rw [getD_in hi, getD_in hb, wrap_succ (by omega), drop_at hb, samePt]
    cases c : (a[i].1 == b[i].1 && a[i].2 == b[i].2)
    · exact tt rfl (tl rfl)
    · exact tf rfl ih
theorem impl_SameDef.sp {d : Nat} (hd : 2 ≤ d) {x y : Df} (h : dfFit 140737488351232 x) : impl_SameDef.f d (x.1, x.2.1, x.2.2.1, x.2.2.2, y.1, y.2.1, y.2.2.1, y.2.2.2) = some (sameD x y) := by
  obtain ⟨d, rfl, _⟩ := dep hd
  rw [impl_SameDef.t_eq]
  dsimp only [impl_SameDef.m]
  obtain ⟨h0, ⟨h1, h2⟩, h3, h4, h5⟩ := h
  unfold sameD
  refine Tells.eq ?_
  cases c0 : isT x.1 y.1
  · exact tt (by rw [show (x.1.toList == y.1.toList) = false from c0]; rfl) (tl rfl)
  refine tf (by rw [show (x.1.toList == y.1.toList) = true from c0]; rfl) (tneq (fun h => tl (by rw [decide_eq_false h]; rfl)) fun e1 => tneq (fun h => tl (by rw [decide_eq_true e1, decide_eq_false h]; rfl)) fun e2 => ?_)
  rw [decide_eq_true e1, decide_eq_true e2]
  refine tc (impl_sameParts.sp (by omega) h3) ?_
  cases samePts x.2.2.1 y.2.2.1
  · exact tt rfl (tl rfl)
  refine tf rfl ?_
  have two : Tells (iter (impl_SameDef.S2 d) rnds ((x.2.2.2.length : Int), (0 : Int), x.1, x.2.1, x.2.2.1, x.2.2.2, y.1, y.2.1, y.2.2.1, y.2.2.2)) (· = sameXl x.2.2.2 y.2.2.2) := by
    refine loopL (impl_SameDef.S2 d) x.2.2.2 (fun i => ((x.2.2.2.length : Int), i, x.1, x.2.1, x.2.2.1, x.2.2.2, y.1, y.2.1, y.2.2.1, y.2.2.2)) (fun i (r : List Ix) => sameXl r (y.2.2.2.drop i)) (by omega) (fun L => ?_) fun L i hi ih => ?_
    · dsimp only [impl_SameDef.S2, impl_SameDef.s2]
      exact tn (by omega) (tl (by rw [sameXl]; simp))
    · dsimp only [impl_SameDef.S2, impl_SameDef.s2]
      have hb : i < y.2.2.2.length := by omega
      refine tp (by omega) (ti hi (ti hb ?_))
      rw [getD_in hi, getD_in hb, wrap_succ (by omega), drop_at hb, sameXl]
      cases c : isT x.2.2.2[i].1 y.2.2.2[i].1
      · exact tt (by rw [show (x.2.2.2[i].1.toList == y.2.2.2[i].1.toList) = false from c]; rfl) (tl rfl)
      refine tf (by rw [show (x.2.2.2[i].1.toList == y.2.2.2[i].1.toList) = true from c]; rfl) ?_
      cases x.2.2.2[i].2.1 == y.2.2.2[i].2.1
      · exact tt rfl (tl rfl)
      refine tf rfl (tc (impl_sameParts.sp (by omega) (h5 _ (List.getElem_mem hi)).2) ?_)
      cases samePts x.2.2.2[i].2.2 y.2.2.2[i].2.2
      · exact tt rfl (tl rfl)
      · exact tf rfl ih
  simp only [Bool.true_and]
  have g := loopL (impl_SameDef.S0 d) x.2.1 (fun i => ((x.2.1.length : Int), i, x.1, x.2.1, x.2.2.1, x.2.2.2, y.1, y.2.1, y.2.2.1, y.2.2.2)) (fun i (r : List Col) => sameCl r (y.2.1.drop i) && sameXl x.2.2.2 y.2.2.2) (by omega) (fun L => ?_) fun L i hi ih => ?_
  · exact g
  · dsimp only [impl_SameDef.S0, impl_SameDef.s0]
    exact tn (by omega) (two.mono fun r hr => by rw [hr, sameCl]; simp; simp)
  · dsimp only [impl_SameDef.S0, impl_SameDef.s0]
    have hb : i < y.2.1.length := by omega
    refine tp (by omega) (ti hi (ti hb ?_))
    rw [getD_in hi, getD_in hb, wrap_succ (by omega), drop_at hb, sameCl]
    show Tells (bif !(isT x.2.1[i].1 y.2.1[i].1 && _) then _ else _) _
    cases c : (isT x.2.1[i].1 y.2.1[i].1 && (x.2.1[i].2.1 == y.2.1[i].2.1 && x.2.1[i].2.2 == y.2.1[i].2.2))
    · exact tt rfl (tl rfl)
    · exact tf rfl ih
theorem spec_SameDef.sp {d : Nat} (hd : 2 ≤ d) {x y : Df} (h : dfFit 140737488351232 x) : spec_SameDef.f d (x.1, x.2.1, x.2.2.1, x.2.2.2, y.1, y.2.1, y.2.2.1, y.2.2.2) = some (sameD x y) := by
  obtain ⟨d, rfl, _⟩ := dep hd
  rw [spec_SameDef.t_eq]
  dsimp only [spec_SameDef.m]
  obtain ⟨h0, ⟨h1, h2⟩, h3, h4, h5⟩ := h
  unfold sameD
  refine Tells.eq ?_
  cases c0 : isT x.1 y.1
  · exact tt (by rw [show (x.1.toList == y.1.toList) = false from c0]; rfl) (tl rfl)
  refine tf (by rw [show (x.1.toList == y.1.toList) = true from c0]; rfl) (tneq (fun h => tl (by rw [decide_eq_false h]; rfl)) fun e1 => tneq (fun h => tl (by rw [decide_eq_true e1, decide_eq_false h]; rfl)) fun e2 => ?_)
  rw [decide_eq_true e1, decide_eq_true e2]
  refine tc (spec_l9SameParts.sp (by omega) h3) ?_
  cases samePts x.2.2.1 y.2.2.1
  · exact tt rfl (tl rfl)
  refine tf rfl ?_
  have two : Tells (iter (spec_SameDef.S2 d) rnds ((0 : Int), x.1, x.2.1, x.2.2.1, x.2.2.2, y.1, y.2.1, y.2.2.1, y.2.2.2)) (· = sameXl x.2.2.2 y.2.2.2) := by
    refine loopL (spec_SameDef.S2 d) x.2.2.2 (fun i => (i, x.1, x.2.1, x.2.2.1, x.2.2.2, y.1, y.2.1, y.2.2.1, y.2.2.2)) (fun i (r : List Ix) => sameXl r (y.2.2.2.drop i)) (by omega) (fun L => ?_) fun L i hi ih => ?_
    · dsimp only [spec_SameDef.S2, spec_SameDef.s2]
      exact tn (by omega) (tl (by rw [sameXl]; simp))
    · dsimp only [spec_SameDef.S2, spec_SameDef.s2]
      have hb : i < y.2.2.2.length := by omega
      refine tp (by omega) (ti hi (ti hb ?_))
      rw [getD_in hi, getD_in hb, wrap_succ (by omega), drop_at hb, sameXl]
      cases c : isT x.2.2.2[i].1 y.2.2.2[i].1
      · exact tt (by rw [show (x.2.2.2[i].1.toList == y.2.2.2[i].1.toList) = false from c]; rfl) (tl rfl)
      refine tf (by rw [show (x.2.2.2[i].1.toList == y.2.2.2[i].1.toList) = true from c]; rfl) ?_
      cases x.2.2.2[i].2.1 == y.2.2.2[i].2.1
      · exact tt rfl (tl rfl)
      refine tf rfl (tc (spec_l9SameParts.sp (by omega) (h5 _ (List.getElem_mem hi)).2) ?_)
      cases samePts x.2.2.2[i].2.2 y.2.2.2[i].2.2
      · exact tt rfl (tl rfl)
      · exact tf rfl ih
  simp only [Bool.true_and]
  have g := loopL (spec_SameDef.S0 d) x.2.1 (fun i => (i, x.1, x.2.1, x.2.2.1, x.2.2.2, y.1, y.2.1, y.2.2.1, y.2.2.2)) (fun i (r : List Col) => sameCl r (y.2.1.drop i) && sameXl x.2.2.2 y.2.2.2) (by omega) (fun L => ?_) fun L i hi ih => ?_
  · exact g
  · dsimp only [spec_SameDef.S0, spec_SameDef.s0]
    exact tn (by omega) (two.mono fun r hr => by rw [hr, sameCl]; simp; simp)
  · dsimp only [spec_SameDef.S0, spec_SameDef.s0]
    have hb : i < y.2.1.length := by omega
    refine tp (by omega) (ti hi (ti hb ?_))
    rw [getD_in hi, getD_in hb, wrap_succ (by omega), drop_at hb, sameCl]
    show Tells (bif !(isT x.2.1[i].1 y.2.1[i].1 && _) then _ else _) _
    cases c : (isT x.2.1[i].1 y.2.1[i].1 && (x.2.1[i].2.1 == y.2.1[i].2.1 && x.2.1[i].2.2 == y.2.1[i].2.2))
    · exact tt rfl (tl rfl)
    · exact tf rfl ih
theorem samePt_self : ∀ l, samePt l l = true
  | [] => rfl
  | x :: r => by rw [samePt, samePt_self r]; simp
theorem samePts_self (l : List By) : samePts l l = true := by unfold samePts; rw [samePt_self]; simp
theorem sameCl_self : ∀ l, sameCl l l = true
  | [] => rfl
  | x :: r => by rw [sameCl, sameCl_self r, isT_self]; simp
theorem sameXl_self : ∀ l, sameXl l l = true
  | [] => rfl
  | x :: r => by rw [sameXl, sameXl_self r, isT_self, samePts_self]; simp
theorem sameD_self (x : Df) : sameD x x = true := by
  unfold sameD
  rw [isT_self, samePts_self, sameCl_self, sameXl_self]
  simp
theorem app_eq (a b : ByteArray) : ByteArray.append a b = a ++ b := rfl
theorem tz {α : Type} {a b : ByteArray} {x y : Option α} {Q : α → Prop} (h : a.size + b.size ≤ 1000000000000) (k : Tells x Q) : Tells (bif decide (¬ ((a.size + b.size : Nat) : Int) > IntKind.max IntKind.i64) then x else y) Q :=
  tp (by show ¬ (_ > (9223372036854775807 : Int)); omega) k
theorem ba_ext {a b : ByteArray} (h : a.data.toList = b.data.toList) : a = b := ByteArray.ext (Array.toList_inj.1 h)
theorem joinS_one (p s : ByteArray) : joinS [p] s = p := by
  apply ba_ext
  unfold joinS Lib.join
  simp [List.intercalate]
theorem joinS_two (p q s : ByteArray) : joinS [p, q] s = p ++ s ++ q := by
  apply ba_ext
  unfold joinS Lib.join
  simp [List.intercalate, ByteArray.data_append]
theorem impl_partsText.sp {d : Nat} (hd : 2 ≤ d) {x : Df} (hn : namesS x.2.1) {l : List By} (h : partsM x.2.1.length l = true) : impl_partsText.f d (x.1, x.2.1, x.2.2.1, x.2.2.2, l) = some (partTx x.2.1 l) := by
  obtain ⟨d, rfl, _⟩ := dep hd
  rw [impl_partsText.t_eq]
  dsimp only [impl_partsText.m]
  have ll := partsM_len h
  have pin := partsM_in h
  refine Tells.eq (loopApp (α := Int × Bool) (β := ByteArray) (impl_partsText.S0 d) l (partOne x.2.1) (fun st i => (l, (l.length : Int), i, x.1, x.2.1, x.2.2.1, x.2.2.2, st)) _ (by omega) (fun L => ?_) fun L st i Q hi h1 ih => ?_)
  · dsimp only [impl_partsText.S0, impl_partsText.s0]
    refine tn (by omega) ?_
    obtain ⟨d, rfl, _⟩ := dep (show 0 + 1 ≤ d by omega)
    rw [strings_Join.t_eq]
    have z1 : (⟨#[59, 32]⟩ : ByteArray).size = 2 := rfl
    have z2 : (⟨#[44, 32]⟩ : ByteArray).size = 2 := rfl
    have hp := fun p hp => partOne_size hn p (pin p hp).1 (pin p hp).2
    match l, ll, hp with
    | [p], _, hp =>
      have := hp p (by simp)
      have e : joinLaw ([p].map (partOne x.2.1), (⟨#[44, 32]⟩ : ByteArray)) = some (partOne x.2.1 p) := by
        unfold joinLaw
        simp only [List.map_cons, List.map_nil, joinS_one]
        rw [if_pos ⟨by simp, by omega⟩]
      exact tc e (tz (by omega) (tl rfl))
    | [p, q], _, hp =>
      have := hp p (by simp)
      have := hp q (by simp)
      have e : joinLaw ([p, q].map (partOne x.2.1), (⟨#[44, 32]⟩ : ByteArray)) = some (partOne x.2.1 p ++ (⟨#[44, 32]⟩ : ByteArray) ++ partOne x.2.1 q) := by
        unfold joinLaw
        simp only [List.map_cons, List.map_nil, joinS_two]
        rw [if_pos ⟨by simp, by simp only [ByteArray.size_append]; omega⟩]
      exact tc e (tz (by simp only [ByteArray.size_append]; omega) (tl rfl))
    | [], ll, _ => exact absurd ll.1 (by simp)
    | _ :: _ :: _ :: r, ll, _ => exact absurd ll.2 (by simp only [List.length_cons]; omega)
  · dsimp only [impl_partsText.S0, impl_partsText.s0]
    have q := pin _ (List.getElem_mem hi)
    refine tp (by omega) (ti hi ?_)
    rw [getD_in hi, wrap_succ (by omega)]
    refine tt (by rw [decide_eq_true q.1, decide_eq_true q.2]; rfl) ?_
    have sz : (colAt x.2.1 l[i].1).1.size ≤ 8 := hn _ (at_mem q.1 q.2)
    have z : (⟨#[32, 100, 101, 115, 99]⟩ : ByteArray).size = 5 := rfl
    unfold partOne at ih
    cases c : l[i].2 with
    | true =>
      rw [c] at ih
      exact tt rfl (tz (a := (colAt x.2.1 l[i].1).1) (by omega) (tp (by simp only [List.length_cons, List.length_nil]; omega) ih))
    | false =>
      rw [c] at ih
      exact tf rfl (tp (by simp only [List.length_cons, List.length_nil]; omega) ih)
theorem spec_l9PartsText.sp {d : Nat} (hd : 1 ≤ d) {x : Df} (hn : namesS x.2.1) {l : List By} (h : partsM x.2.1.length l = true) : spec_l9PartsText.f d (x.1, x.2.1, x.2.2.1, x.2.2.2, l) = some (partTx x.2.1 l) := by
  obtain ⟨d, rfl, _⟩ := dep hd
  rw [spec_l9PartsText.t_eq]
  dsimp only [spec_l9PartsText.m]
  have ll := partsM_len h
  have pin := partsM_in h
  have hp := fun p hp => partOne_size hn p (pin p hp).1 (pin p hp).2
  have z1 : (⟨#[59, 32]⟩ : ByteArray).size = 2 := rfl
  have z2 : (⟨#[44, 32]⟩ : ByteArray).size = 2 := rfl
  have z3 : (⟨#[32, 100, 101, 115, 99]⟩ : ByteArray).size = 5 := rfl
  have z0 : (⟨#[]⟩ : ByteArray).size = 0 := rfl
  have stop : ∀ L s, s.size ≤ 100 → Tells (spec_l9PartsText.S0 d L (l, s, (l.length : Int), x.1, x.2.1, x.2.2.1, x.2.2.2)) (· = s ++ (⟨#[59, 32]⟩ : ByteArray)) := fun L s hs => by
    dsimp only [spec_l9PartsText.S0, spec_l9PartsText.s0]
    exact tn (by omega) (tz (by omega) (tl rfl))
  have go : ∀ L s (i : Nat) (hi : i < l.length) Q, s.size ≤ 20 → Tells (L (l, (if i = 0 then s else s ++ (⟨#[44, 32]⟩ : ByteArray)) ++ partOne x.2.1 l[i], ((i + 1 : Nat) : Int), x.1, x.2.1, x.2.2.1, x.2.2.2)) Q → Tells (spec_l9PartsText.S0 d L (l, s, (i : Int), x.1, x.2.1, x.2.2.1, x.2.2.2)) Q := fun L s i hi Q hs ih => by
    dsimp only [spec_l9PartsText.S0, spec_l9PartsText.s0]
    have q := pin _ (List.getElem_mem hi)
    have sz : (colAt x.2.1 l[i].1).1.size ≤ 8 := hn _ (at_mem q.1 q.2)
    have iq : (decide (0 ≤ l[i].1) && decide (l[i].1 < (x.2.1.length : Int))) = true := by rw [decide_eq_true q.1, decide_eq_true q.2]; rfl
    have pe : partOne x.2.1 l[i] = bif l[i].2 then (colAt x.2.1 l[i].1).1 ++ (⟨#[32, 100, 101, 115, 99]⟩ : ByteArray) else (colAt x.2.1 l[i].1).1 := rfl
    rw [pe] at ih
    rw [getD_in hi, wrap_succ (by omega)]
    refine tp (by omega) (tif (fun c => tz (by omega) (ti hi (tt iq (tz (b := (colAt x.2.1 l[i].1).1) ?_ (ti hi ?_))))) fun c => ti hi (tt iq (tz (b := (colAt x.2.1 l[i].1).1) (by omega) (ti hi ?_))))
    · rw [app_eq, ByteArray.size_append]; omega
    · rw [if_neg (by omega)] at ih
      cases c2 : l[i].2 with
      | true =>
        rw [c2, cond_true, ← ba_assoc] at ih
        refine tt rfl (tz ?_ ih)
        show (s ++ _ ++ (colAt x.2.1 l[i].1).1).size + _ ≤ _
        simp only [ByteArray.size_append]; omega
      | false =>
        rw [c2, cond_false] at ih
        exact tf rfl ih
    · rw [if_pos (by omega)] at ih
      cases c2 : l[i].2 with
      | true =>
        rw [c2, cond_true, ← ba_assoc] at ih
        refine tt rfl (tz ?_ ih)
        show (s ++ (colAt x.2.1 l[i].1).1).size + _ ≤ _
        simp only [ByteArray.size_append]; omega
      | false =>
        rw [c2, cond_false] at ih
        exact tf rfl ih
  obtain ⟨R, hR⟩ : ∃ R, rnds = R + 1 + 1 + 1 := ⟨rnds - 3, by have := rnds_gt (n := 5) (by decide); omega⟩
  rw [hR]
  simp only [iter]
  refine Tells.eq ?_
  match l, ll, hp, stop, go with
  | [p], _, hp, stop, go =>
    have := hp p (by simp)
    refine go _ _ 0 (by simp) _ (by omega) ?_
    rw [if_pos rfl, ba_nil]
    exact stop _ _ (by simp only [List.getElem_cons_zero]; omega)
  | [p, q], _, hp, stop, go =>
    have := hp p (by simp)
    have := hp q (by simp)
    refine go _ _ 0 (by simp) _ (by omega) (go _ _ 1 (by simp) _ ?_ ?_)
    · rw [if_pos rfl, ba_nil]; simp only [List.getElem_cons_zero]; omega
    · rw [if_pos rfl, if_neg (by decide), ba_nil]
      exact stop _ _ (by simp only [ByteArray.size_append, List.getElem_cons_zero, List.getElem_cons_succ]; omega)
  | [], ll, _, _, _ => exact absurd ll.1 (by simp)
  | _ :: _ :: _ :: r, ll, _, _, _ => exact absurd ll.2 (by simp only [List.length_cons]; omega)
theorem types_split : splitL (⟨#[32, 105, 110, 116, 32, 110, 117, 109, 32, 116, 101, 120, 116, 32, 98, 111, 111, 108]⟩ : ByteArray) = tyL := by kernel_rfl
theorem spec_l9Type.sp {d : Nat} (hd : 1 ≤ d) {t : Int} (h0 : 0 ≤ t) (h1 : t ≤ 4) : spec_l9Type.f d t = some (tyAt t) := by
  obtain ⟨d, rfl, _⟩ := dep hd
  rw [spec_l9Type.t_eq]
  dsimp only [spec_l9Type.m]
  have l5 : (tyL.length : Int) = 5 := rfl
  exact Tells.eq (tt (show (decide (0 ≤ t) && decide (t < (tyL.length : Int))) = true by rw [decide_eq_true h0, decide_eq_true (show t < (tyL.length : Int) by omega)]; rfl) (tl rfl))
/-- what a good table's text needs: short names, types there -/
theorem goodM.cols {x : Df} (g : goodM x) : namesS x.2.1 ∧ (∀ c ∈ x.2.1, c.1.size ≤ 8 ∧ 1 ≤ c.2.1 ∧ c.2.1 ≤ 4) ∧ x.1.size ≤ 8 ∧ ∀ y ∈ x.2.2.2, y.1.size ≤ 8 := by
  obtain ⟨n1, n2, n3⟩ := g.names
  have t := g.types
  have hn : namesS x.2.1 := fun c hc => (freeM_size (n2 c hc)).2
  exact ⟨hn, fun c hc => ⟨hn c hc, inB_iff.1 (t.1 c hc)⟩, (freeM_size n1).2, fun y hy => (freeM_size (n3 y hy)).2⟩
theorem foldl_snoc {β : Type} (f : ByteArray → β → ByteArray) {l : List β} {i : Nat} (hi : i < l.length) (s : ByteArray) : (l.take (i + 1)).foldl f s = f ((l.take i).foldl f s) l[i] := by
  rw [take_succ' hi, List.foldl_append]; rfl
theorem text_sizes {x : Df} (g : goodM x) (i : Nat) : ((x.2.1.take i).foldl colS (headTx x)).size ≤ 300 ∧ ((x.2.2.2.take i).foldl (idxS x.2.1) (x.2.1.foldl colS (headTx x) ++ ((⟨#[112, 114, 105, 109, 97, 114, 121, 32]⟩ : ByteArray) ++ partTx x.2.1 x.2.2.1))).size ≤ 1000 := by
  obtain ⟨hn, hc, h1, hx⟩ := g.cols
  obtain ⟨t1, t2, t3⟩ := g.types
  obtain ⟨p1, p2⟩ := g.parts
  have x2 := g.2.2.2.1
  have z4 : (⟨#[116, 97, 98, 108, 101, 32]⟩ : ByteArray).size = 6 := rfl
  have z5 : (⟨#[32, 123, 32]⟩ : ByteArray).size = 3 := rfl
  have z6 : (⟨#[112, 114, 105, 109, 97, 114, 121, 32]⟩ : ByteArray).size = 8 := rfl
  have pz := partTx_size hn _ p1
  have hz : (headTx x).size ≤ 20 := by unfold headTx; simp only [ByteArray.size_append]; omega
  have f1 := foldl_size colS 30 (x.2.1.take i) (headTx x) fun c h s => colS_size s c (hc c (List.mem_of_mem_take h))
  have f2 := foldl_size colS 30 x.2.1 (headTx x) fun c h s => colS_size s c (hc c h)
  have f3 := foldl_size (idxS x.2.1) 60 (x.2.2.2.take i) (x.2.1.foldl colS (headTx x) ++ ((⟨#[112, 114, 105, 109, 97, 114, 121, 32]⟩ : ByteArray) ++ partTx x.2.1 x.2.2.1)) fun y h s => idxS_size hn s y ⟨hx y (List.mem_of_mem_take h), p2 y (List.mem_of_mem_take h)⟩
  rw [List.length_take] at f1 f3
  simp only [ByteArray.size_append] at f3
  omega
theorem impl_DefText.sp {d : Nat} (hd : 6 ≤ d) {x : Df} (h : dfFit 140737488351232 x) : impl_DefText.f d (x.1, x.2.1, x.2.2.1, x.2.2.2) = some (defTx x) := by
  obtain ⟨d, rfl, _⟩ := dep hd
  rw [impl_DefText.t_eq]
  dsimp only [impl_DefText.m]
  unfold defTx
  refine Tells.eq (tc (impl_CheckDef.sp (by omega) h) (tneq (fun c => tl (by rw [decide_eq_false c]; rfl)) fun c => ?_))
  rw [decide_eq_true c, cond_true]
  have g := checkM_iff.1 c
  obtain ⟨hn, hc, h1, hx⟩ := g.cols
  obtain ⟨p1, p2⟩ := g.parts
  have t := g.types
  have x2 := g.2.2.2.1
  have z1 : (⟨#[59, 32]⟩ : ByteArray).size = 2 := rfl
  have z2 : (⟨#[32]⟩ : ByteArray).size = 1 := rfl
  have z3 : (⟨#[32, 110, 117, 108, 108]⟩ : ByteArray).size = 5 := rfl
  have z4 : (⟨#[116, 97, 98, 108, 101, 32]⟩ : ByteArray).size = 6 := rfl
  have z5 : (⟨#[32, 123, 32]⟩ : ByteArray).size = 3 := rfl
  have z6 : (⟨#[112, 114, 105, 109, 97, 114, 121, 32]⟩ : ByteArray).size = 8 := rfl
  have z7 : (⟨#[117, 110, 105, 113, 117, 101, 32]⟩ : ByteArray).size = 7 := rfl
  have z8 : (⟨#[105, 110, 100, 101, 120, 32]⟩ : ByteArray).size = 6 := rfl
  have z9 : (⟨#[125]⟩ : ByteArray).size = 1 := rfl
  have pz := partTx_size hn _ p1
  refine tz (by omega) (tz (by rw [app_eq, ByteArray.size_append]; omega) ?_)
  refine loop0 (σ := ByteArray) (impl_DefText.S0 d) x.2.1.length (fun s i => (s, x.2.1, (x.2.1.length : Int), i, x.1, x.2.1, x.2.2.1, x.2.2.2)) (fun s i => s = (x.2.1.take i).foldl colS (headTx x)) (fun _ _ r => r = restTx x (x.2.1.foldl colS (headTx x))) _ (by omega) rfl ?_ ?_
  · rintro L s rfl
    have sz := (text_sizes g x.2.1.length).1
    rw [List.take_length] at sz ⊢
    dsimp only [impl_DefText.S0, impl_DefText.s0]
    refine tn (by omega) (tc (impl_partsText.sp (by omega) hn p1) (tz (by omega) (tz (by rw [app_eq, ByteArray.size_append]; omega) ?_)))
    refine loop0 (σ := ByteArray) (impl_DefText.S2 d) x.2.2.2.length (fun s i => (s, x.2.2.2, (x.2.2.2.length : Int), i, x.1, x.2.1, x.2.2.1, x.2.2.2)) (fun s i => s = (x.2.2.2.take i).foldl (idxS x.2.1) (x.2.1.foldl colS (headTx x) ++ ((⟨#[112, 114, 105, 109, 97, 114, 121, 32]⟩ : ByteArray) ++ partTx x.2.1 x.2.2.1))) (fun _ _ r => r = restTx x (x.2.1.foldl colS (headTx x))) _ (by omega) rfl ?_ ?_
    · rintro L s rfl
      have sz := (text_sizes g x.2.2.2.length).2
      rw [List.take_length] at sz ⊢
      dsimp only [impl_DefText.S2, impl_DefText.s2]
      exact tn (by omega) (tz (by omega) (tl rfl))
    · rintro L s i rfl hi ih
      have sz := (text_sizes g i).2
      revert sz ih
      generalize he : (x.2.2.2.take i).foldl (idxS x.2.1) (x.2.1.foldl colS (headTx x) ++ ((⟨#[112, 114, 105, 109, 97, 114, 121, 32]⟩ : ByteArray) ++ partTx x.2.1 x.2.2.1)) = s
      intro ih sz
      have ih := ih _ (foldl_snoc (idxS x.2.1) hi _).symm
      rw [he] at ih
      unfold idxS at ih
      dsimp only [impl_DefText.S2, impl_DefText.s2]
      have sx := hx _ (List.getElem_mem hi)
      have px := p2 _ (List.getElem_mem hi)
      have pt := partTx_size hn _ px
      rw [getD_in hi, wrap_succ (by omega)]
      refine tp (by omega) (ti hi ?_)
      cases c : x.2.2.2[i].2.1 with
      | true =>
        rw [c] at ih
        refine tt rfl (tz (by omega) (tz (by rw [app_eq, ByteArray.size_append]; omega) (tc (impl_partsText.sp (by omega) hn px) (tz ?_ (tz ?_ ih)))))
        · simp only [app_eq, ByteArray.size_append]; omega
        · simp only [app_eq, ByteArray.size_append]; omega
      | false =>
        rw [c] at ih
        refine tf rfl (tz (by omega) (tz (by rw [app_eq, ByteArray.size_append]; omega) (tc (impl_partsText.sp (by omega) hn px) (tz ?_ (tz ?_ ih)))))
        · simp only [app_eq, ByteArray.size_append]; omega
        · simp only [app_eq, ByteArray.size_append]; omega
  · rintro L s i rfl hi ih
    have sz := (text_sizes g i).1
    revert sz ih
    generalize he : (x.2.1.take i).foldl colS (headTx x) = s
    intro ih sz
    have ih := ih _ (foldl_snoc colS hi _).symm
    rw [he] at ih
    unfold colS at ih
    dsimp only [impl_DefText.S0, impl_DefText.s0]
    have cx := hc _ (List.getElem_mem hi)
    have ts := tyAt_size x.2.1[i].2.1 cx.2.1 cx.2.2
    rw [getD_in hi, wrap_succ (by omega)]
    obtain ⟨d, rfl, _⟩ := dep (show 0 + 1 ≤ d by omega)
    rw [strings_Split.t_eq]
    have e : splitLaw ((⟨#[32, 105, 110, 116, 32, 110, 117, 109, 32, 116, 101, 120, 116, 32, 98, 111, 111, 108]⟩ : ByteArray), (⟨#[32]⟩ : ByteArray)) = some tyL := by
      unfold splitLaw
      rw [if_pos ⟨rfl, by decide⟩, types_split]
    have l5 : (tyL.length : Int) = 5 := rfl
    have tyE : List.getD tyL (Int.toNat x.2.1[i].2.1) ByteArray.empty = tyAt x.2.1[i].2.1 := rfl
    refine tp (by omega) (ti hi (tz (by omega) (tc e (tt ?_ ?_))))
    · rw [decide_eq_true (show 0 ≤ x.2.1[i].2.1 by omega), decide_eq_true (show x.2.1[i].2.1 < (tyL.length : Int) by omega)]; rfl
    rw [tyE]
    refine tz (by rw [app_eq, ByteArray.size_append]; omega) (tz (by simp only [app_eq, ByteArray.size_append]; omega) ?_)
    cases c : x.2.1[i].2.2 with
    | true =>
      rw [c] at ih
      exact tt rfl (tz (by simp only [app_eq, ByteArray.size_append]; omega) (tz (by simp only [app_eq, ByteArray.size_append]; omega) ih))
    | false =>
      rw [c] at ih
      exact tf rfl (tz (by simp only [app_eq, ByteArray.size_append]; omega) ih)
theorem spec_DefText.sp {d : Nat} (hd : 7 ≤ d) {x : Df} (h : dfFit 140737488351232 x) : spec_DefText.f d (x.1, x.2.1, x.2.2.1, x.2.2.2) = some (defTx x) := by
  obtain ⟨d, rfl, _⟩ := dep hd
  rw [spec_DefText.t_eq]
  dsimp only [spec_DefText.m]
  unfold defTx
  refine Tells.eq (tc (spec_CheckDef.sp (by omega) h) (tneq (fun c => tl (by rw [decide_eq_false c]; rfl)) fun c => ?_))
  rw [decide_eq_true c, cond_true]
  have g := checkM_iff.1 c
  obtain ⟨hn, hc, h1, hx⟩ := g.cols
  obtain ⟨p1, p2⟩ := g.parts
  have t := g.types
  have x2 := g.2.2.2.1
  have z1 : (⟨#[59, 32]⟩ : ByteArray).size = 2 := rfl
  have z2 : (⟨#[32]⟩ : ByteArray).size = 1 := rfl
  have z3 : (⟨#[32, 110, 117, 108, 108]⟩ : ByteArray).size = 5 := rfl
  have z4 : (⟨#[116, 97, 98, 108, 101, 32]⟩ : ByteArray).size = 6 := rfl
  have z5 : (⟨#[32, 123, 32]⟩ : ByteArray).size = 3 := rfl
  have z6 : (⟨#[112, 114, 105, 109, 97, 114, 121, 32]⟩ : ByteArray).size = 8 := rfl
  have z7 : (⟨#[117, 110, 105, 113, 117, 101, 32]⟩ : ByteArray).size = 7 := rfl
  have z8 : (⟨#[105, 110, 100, 101, 120, 32]⟩ : ByteArray).size = 6 := rfl
  have z9 : (⟨#[125]⟩ : ByteArray).size = 1 := rfl
  have pz := partTx_size hn _ p1
  refine tz (by omega) (tz (by rw [app_eq, ByteArray.size_append]; omega) ?_)
  refine loop0 (σ := ByteArray) (spec_DefText.S0 d) x.2.1.length (fun s i => (s, i, x.1, x.2.1, x.2.2.1, x.2.2.2)) (fun s i => s = (x.2.1.take i).foldl colS (headTx x)) (fun _ _ r => r = restTx x (x.2.1.foldl colS (headTx x))) _ (by omega) rfl ?_ ?_
  · rintro L s rfl
    have sz := (text_sizes g x.2.1.length).1
    rw [List.take_length] at sz ⊢
    dsimp only [spec_DefText.S0, spec_DefText.s0]
    refine tn (by omega) (tz (by omega) (tc (spec_l9PartsText.sp (by omega) hn p1) (tz (by rw [app_eq, ByteArray.size_append]; omega) ?_)))
    refine loop0 (σ := ByteArray) (spec_DefText.S2 d) x.2.2.2.length (fun s i => (s, i, x.1, x.2.1, x.2.2.1, x.2.2.2)) (fun s i => s = (x.2.2.2.take i).foldl (idxS x.2.1) (x.2.1.foldl colS (headTx x) ++ ((⟨#[112, 114, 105, 109, 97, 114, 121, 32]⟩ : ByteArray) ++ partTx x.2.1 x.2.2.1))) (fun _ _ r => r = restTx x (x.2.1.foldl colS (headTx x))) _ (by omega) (by simp only [app_eq, ba_assoc]; rfl) ?_ ?_
    · rintro L s rfl
      have sz := (text_sizes g x.2.2.2.length).2
      rw [List.take_length] at sz ⊢
      dsimp only [spec_DefText.S2, spec_DefText.s2]
      exact tn (by omega) (tz (by omega) (tl rfl))
    · rintro L s i rfl hi ih
      have sz := (text_sizes g i).2
      revert sz ih
      generalize he : (x.2.2.2.take i).foldl (idxS x.2.1) (x.2.1.foldl colS (headTx x) ++ ((⟨#[112, 114, 105, 109, 97, 114, 121, 32]⟩ : ByteArray) ++ partTx x.2.1 x.2.2.1)) = s
      intro ih sz
      have ih := ih _ (foldl_snoc (idxS x.2.1) hi _).symm
      rw [he] at ih
      unfold idxS at ih
      dsimp only [spec_DefText.S2, spec_DefText.s2]
      have sx := hx _ (List.getElem_mem hi)
      have px := p2 _ (List.getElem_mem hi)
      have pt := partTx_size hn _ px
      rw [getD_in hi, wrap_succ (by omega)]
      refine tp (by omega) (ti hi ?_)
      cases c : x.2.2.2[i].2.1 with
      | true =>
        rw [c, cond_true, ← ba_assoc, ← ba_assoc, ← ba_assoc] at ih
        refine tt rfl (tz (by omega) (ti hi (tz (by rw [app_eq, ByteArray.size_append]; omega) (tz ?_ (ti hi (tc (spec_l9PartsText.sp (by omega) hn px) (tz ?_ ih)))))))
        · simp only [app_eq, ByteArray.size_append]; omega
        · simp only [app_eq, ByteArray.size_append]; omega
      | false =>
        rw [c, cond_false, ← ba_assoc, ← ba_assoc, ← ba_assoc] at ih
        refine tf rfl (tz (by omega) (ti hi (tz (by rw [app_eq, ByteArray.size_append]; omega) (tz ?_ (ti hi (tc (spec_l9PartsText.sp (by omega) hn px) (tz ?_ ih)))))))
        · simp only [app_eq, ByteArray.size_append]; omega
        · simp only [app_eq, ByteArray.size_append]; omega
  · rintro L s i rfl hi ih
    have sz := (text_sizes g i).1
    revert sz ih
    generalize he : (x.2.1.take i).foldl colS (headTx x) = s
    intro ih sz
    have ih := ih _ (foldl_snoc colS hi _).symm
    rw [he] at ih
    unfold colS at ih
    dsimp only [spec_DefText.S0, spec_DefText.s0]
    have cx := hc _ (List.getElem_mem hi)
    have ts := tyAt_size x.2.1[i].2.1 cx.2.1 cx.2.2
    rw [getD_in hi, wrap_succ (by omega)]
    refine tp (by omega) (ti hi (tz (by omega) (tz (by rw [app_eq, ByteArray.size_append]; omega) (ti hi (tc (spec_l9Type.sp (by omega) (by omega) cx.2.2) ?_)))))
    refine tz (by simp only [app_eq, ByteArray.size_append]; omega) (ti hi ?_)
    rw [← ba_assoc, ← ba_assoc] at ih
    cases c : x.2.1[i].2.2 with
    | true =>
      rw [c] at ih
      exact tt rfl (tz (by simp only [app_eq, ByteArray.size_append]; omega) (tz (by simp only [app_eq, ByteArray.size_append]; omega) ih))
    | false =>
      rw [c] at ih
      exact tf rfl (tz (by simp only [app_eq, ByteArray.size_append]; omega) ih)
theorem spec_DrawCheckDef.sp {d : Nat} (hd : 7 ≤ d) {b : List Int} (hl : b.length ≤ 1048576) : Tells (spec_DrawCheckDef.f d b) fun r => tabD 7 r := by
  obtain ⟨d, rfl, _⟩ := dep hd
  rw [spec_DrawCheckDef.t_eq]
  dsimp only [spec_DrawCheckDef.m]
  refine tb (spec_l1New.sp (by omega) hl) fun r1 h1 => ?_
  rw [h1.1]
  exact tb (spec_l9Any.sp (by omega) h1.2) fun r2 g2 => tl g2.1
theorem spec_l9Copy.sp {d : Nat} (hd : 1 ≤ d) {x : Df} (h : dfFit 1048576 x) : spec_l9Copy.f d (x.1, x.2.1, x.2.2.1, x.2.2.2) = some x := by
  obtain ⟨d, rfl, _⟩ := dep hd
  rw [spec_l9Copy.t_eq]
  dsimp only [spec_l9Copy.m]
  obtain ⟨h0, ⟨h1, h2⟩, h3, h4, h5⟩ := h
  refine Tells.eq (tp (by simp only [List.length_nil]; omega) (tp (by simp only [List.length_nil]; omega) ?_))
  refine loopApp (α := ByteArray × Bool × List (Int × Bool)) (β := ByteArray × Bool × List (Int × Bool)) (spec_l9Copy.S0 d) x.2.2.2 id (fun st i => (i, x.1, x.2.1, x.2.2.1, x.2.2.2, ByteArray.empty, ([] : List (ByteArray × Int × Bool)), ([] : List (Int × Bool)), ([] : List (ByteArray × Bool × (List (Int × Bool)))), x.1, ([] : List (ByteArray × Int × Bool)) ++ x.2.1, ([] : List (Int × Bool)) ++ x.2.2.1, st)) _ (by omega) (fun L => ?_) fun L st i Q hi h1 ih => ?_
  · dsimp only [spec_l9Copy.S0, spec_l9Copy.s0]
    exact tn (by omega) (tl (by simp))
  · dsimp only [spec_l9Copy.S0, spec_l9Copy.s0]
    have := h5 _ (List.getElem_mem hi)
    refine tp (by omega) (ti hi ?_)
    rw [getD_in hi, wrap_succ (by omega)]
    exact tp (by simp only [List.length_nil]; omega) (tp (by simp only [List.length_cons, List.length_nil]; omega) ih)
theorem spec_DrawSameDef.sp {d : Nat} (hd : 7 ≤ d) {b : List Int} (hl : b.length ≤ 1048576) : Tells (spec_DrawSameDef.f d b) fun r => tabD 7 (r.1, r.2.1, r.2.2.1, r.2.2.2.1) ∧ tabD 7 r.2.2.2.2 := by
  obtain ⟨d, rfl, _⟩ := dep hd
  rw [spec_DrawSameDef.t_eq]
  dsimp only [spec_DrawSameDef.m]
  refine tb (spec_l1New.sp (by omega) hl) fun r1 h1 => ?_
  rw [h1.1]
  refine tb (spec_l9Any.sp (by omega) h1.2) fun r2 g2 => tb (spec_l1Once.sp (by omega) g2.2) fun r3 g3 => tbif (fun _ => ?_) fun _ => ?_
  · exact tc (spec_l9Copy.sp (x := (r2.1, r2.2.1, r2.2.2.1, r2.2.2.2.1)) (by omega) (g2.1.fit (by decide))) (tl ⟨g2.1, g2.1⟩)
  · exact tb (spec_l9Any.sp (by omega) g3) fun r5 g5 => tl ⟨g2.1, g5.1⟩
theorem defTx_empty (x : Df) : (ByteArray.toList (defTx x) == ByteArray.toList (⟨#[]⟩ : ByteArray)) = (checkM x != 0) := by
  unfold defTx
  by_cases c : checkM x = 0
  · rw [decide_eq_true c, cond_true, c]
    show isT _ _ = false
    cases e : isT (restTx x (x.2.1.foldl colS (headTx x))) (⟨#[]⟩ : ByteArray) with
    | false => rfl
    | true =>
      have e := congrArg ByteArray.size (isT_iff.1 e)
      unfold restTx at e
      rw [ByteArray.size_append] at e
      have z9 : (⟨#[125]⟩ : ByteArray).size = 1 := rfl
      have z0 : (⟨#[]⟩ : ByteArray).size = 0 := rfl
      omega
  · rw [decide_eq_false c, cond_false]
    simp [c]
theorem laws_FnChecks.pure {d : Nat} (hd : 8 ≤ d) {b : List Int} (h0 : okV (.row (.one (.int .u8))) b) : laws_FnChecks.f d b = some true := by
  obtain ⟨d, rfl, _⟩ := dep hd
  rw [laws_FnChecks.t_eq]
  dsimp only [laws_FnChecks.m]
  refine Tells.eq (tc (laws_big.sp (by omega) b) (tif (fun _ => tl rfl) fun h => ?_))
  refine tb (spec_DrawCheckDef.sp (by omega) (by omega)) fun x hx => ?_
  have fit := hx.big (by decide)
  refine tc (impl_CheckDef.sp (by omega) fit) (tb (spec_DrawSameDef.sp (by omega) (by omega)) fun r hr => ?_)
  obtain ⟨a1, a2, a3, a4, y⟩ := r
  obtain ⟨ha, hy⟩ := hr
  have fa : dfFit 140737488351232 (a1, a2, a3, a4) := ha.big (by decide)
  refine tc (spec_CheckDef.sp (by omega) fit) (tt (by simp) (tc (impl_DefText.sp (by omega) fit) (tt (by rw [defTx_empty]; simp) ?_)))
  refine tc (impl_DefText.sp (by omega) fit) (tc (spec_DefText.sp (by omega) fit) (tt (by simp) ?_))
  refine tc (impl_SameDef.sp (x := (a1, a2, a3, a4)) (y := y) (by omega) fa) (tc (spec_SameDef.sp (x := (a1, a2, a3, a4)) (y := y) (by omega) fa) (tt (by simp) ?_))
  refine tc (impl_SameDef.sp (x := (a1, a2, a3, a4)) (y := (a1, a2, a3, a4)) (by omega) fa) (tl ?_)
  exact sameD_self _
abbrev Tok := Int × ByteArray
def wTable : ByteArray := ⟨#[116, 97, 98, 108, 101]⟩
def wPrimary : ByteArray := ⟨#[112, 114, 105, 109, 97, 114, 121]⟩
def wUnique : ByteArray := ⟨#[117, 110, 105, 113, 117, 101]⟩
def wIndex : ByteArray := ⟨#[105, 110, 100, 101, 120]⟩
def wNull : ByteArray := ⟨#[110, 117, 108, 108]⟩
def wDesc : ByteArray := ⟨#[100, 101, 115, 99]⟩
def mOpen : ByteArray := ⟨#[123]⟩
def mClose : ByteArray := ⟨#[125]⟩
def mComma : ByteArray := ⟨#[44]⟩
def mSemi : ByteArray := ⟨#[59]⟩
def colToks (c : Col) : List Tok := (1, c.1) :: (1, tyAt c.2.1) :: ((bif c.2.2 then [(1, wNull)] else []) ++ [(2, mSemi)])
def partToks (cs : List Col) (p : By) : List Tok := (1, (colAt cs p.1).1) :: (bif p.2 then [(1, wDesc)] else [])
def partsToks (cs : List Col) : List By → List Tok
  | [] => []
  | [p] => partToks cs p ++ [(2, mSemi)]
  | p :: q :: r => partToks cs p ++ (2, mComma) :: partsToks cs (q :: r)
def idxToks (cs : List Col) (x : Ix) : List Tok := (1, bif x.2.1 then wUnique else wIndex) :: (1, x.1) :: partsToks cs x.2.2
def defToks (x : Df) : List Tok := (1, wTable) :: (1, x.1) :: (2, mOpen) :: (x.2.1.flatMap colToks ++ (1, wPrimary) :: (partsToks x.2.1 x.2.2.1 ++ (x.2.2.2.flatMap (idxToks x.2.1) ++ [(2, mClose)])))
def allToks (l : List Df) : List Tok := l.flatMap defToks
def runM : List Int → Nat
  | [] => 0
  | c :: r => if inB c 97 122 = true ∨ inB c 48 57 = true then runM r + 1 else 0
def blankM (c : Int) : Bool := c == 32 || (c == 9 || (c == 10 || c == 13))
/-- What is told of bytes (n: how many rounds at most), behind the tokens t; i: their place. -/
def lexB : Nat → List Int → Nat → List Tok → List Tok × Int
  | 0, w, i, t => if w = [] then (t, -1) else ([], (i : Int))
  | _ + 1, [], _, t => (t, -1)
  | n + 1, c :: w, i, t => if blankM c = true then lexB n w (i + 1) t else
      if inB c 97 122 = true then (if tokM 1 (c :: w.take (runM w)) = true then (if t.length = 500 then ([], (i : Int)) else lexB n (w.drop (runM w)) (i + 1 + runM w) (t ++ [(1, numsStr (c :: w.take (runM w)))])) else ([], (i : Int)))
      else (if tokM 2 [c] = true then (if t.length = 500 then ([], (i : Int)) else lexB n w (i + 1) (t ++ [(2, numsStr [c])])) else ([], (i : Int)))
theorem lexB_nil (n i : Nat) (t : List Tok) : lexB n [] i t = (t, -1) := by cases n <;> simp [lexB]
/-- a text of bytes that is read as these tokens -/
def Lx (w : List Int) (ts : List Tok) : Prop := ∀ n i t, w.length ≤ n → t.length + ts.length ≤ 500 → lexB n w i t = (t ++ ts, -1)
theorem Lx.nil : Lx [] [] := fun n i t _ _ => by rw [lexB_nil, List.append_nil]
theorem Lx.blank {c : Int} {w : List Int} {ts : List Tok} (hc : blankM c = true) (h : Lx w ts) : Lx (c :: w) ts := fun n i t hn ht => by
  obtain ⟨n, rfl⟩ : ∃ m, n = m + 1 := ⟨n - 1, by simp only [List.length_cons] at hn; omega⟩
  rw [lexB, if_pos hc]
  exact h n _ t (by simp only [List.length_cons] at hn; omega) ht
theorem Lx.mark {c : Int} {w : List Int} {ts : List Tok} (hc : blankM c = false) (hl : inB c 97 122 = false) (hm : markM [c] = true) (h : Lx w ts) : Lx (c :: w) ((2, numsStr [c]) :: ts) := fun n i t hn ht => by
  obtain ⟨n, rfl⟩ : ∃ m, n = m + 1 := ⟨n - 1, by simp only [List.length_cons] at hn; omega⟩
  simp only [List.length_cons] at ht hn
  have e : tokM 2 [c] = true := by unfold tokM; rw [if_neg (by decide), if_pos rfl]; exact hm
  rw [lexB, if_neg (by rw [hc]; simp), if_neg (by rw [hl]; simp), if_pos e, if_neg (by omega)]
  rw [h n _ _ (by omega) (by simp only [List.length_append, List.length_cons, List.length_nil]; omega)]
  simp
def endsN (w : List Int) : Prop := w = [] ∨ ∃ c r, w = c :: r ∧ inB c 97 122 = false ∧ inB c 48 57 = false
theorem runM_app : ∀ (a r : List Int), (∀ c ∈ a, inB c 97 122 = true ∨ inB c 48 57 = true) → endsN r → runM (a ++ r) = a.length
  | [], r, _, hr => by
    rcases hr with rfl | ⟨c, r, rfl, h1, h2⟩
    · rfl
    · simp [runM, h1, h2]
  | c :: a, r, h, hr => by
    have ih := runM_app a r (fun x hx => h x (List.mem_cons_of_mem _ hx)) hr
    rw [List.cons_append, runM, ih, if_pos (h c List.mem_cons_self), List.length_cons]
theorem nameM_rest (n : Int) : ∀ (a : List Int) (i : Nat), 0 < i → nameM n i a = true → ∀ c ∈ a, inB c 97 122 = true ∨ inB c 48 57 = true
  | [], i, _, h => by simp
  | c :: a, i, hi, h => by
    rw [nameM] at h
    split at h
    · rename_i h1
      have := nameM_rest n a (i + 1) (by omega) h
      exact fun x hx => by rcases List.mem_cons.1 hx with rfl | hx; exact Or.inl h1; exact this x hx
    · split at h
      · omega
      · split at h
        · rename_i h1
          have := nameM_rest n a (i + 1) (by omega) h
          exact fun x hx => by rcases List.mem_cons.1 hx with rfl | hx; exact Or.inr h1; exact this x hx
        · cases h
theorem Lx.name {b w : List Int} {ts : List Tok} (hb : nameM b.length 0 b = true) (he : endsN w) (h : Lx w ts) : Lx (b ++ w) ((1, numsStr b) :: ts) := fun n i t hn ht => by
  match b, hb with
  | [], hb => simp [nameM, inB] at hb
  | c :: a, hb =>
    obtain ⟨n, rfl⟩ : ∃ m, n = m + 1 := ⟨n - 1, by simp only [List.cons_append, List.length_cons] at hn; omega⟩
    simp only [List.length_cons, List.cons_append, List.length_append] at ht hn
    have hl : inB c 97 122 = true ∧ nameM ((c :: a).length : Nat) 1 a = true := by
      rw [nameM] at hb
      split at hb
      · rename_i h1; exact ⟨h1, hb⟩
      · rw [if_pos rfl] at hb; cases hb
    have hrest := nameM_rest _ a 1 (by omega) hl.2
    have nb : ¬ blankM c = true := by
      have := inB_iff.1 hl.1
      unfold blankM
      simp; omega
    have ok : tokM 1 (c :: a) = true := by unfold tokM; rw [if_pos rfl]; exact hb
    rw [List.cons_append, lexB, if_neg nb, if_pos hl.1, runM_app a w hrest he, List.take_left, List.drop_left, if_pos ok, if_neg (by omega)]
    rw [h n _ _ (by omega) (by simp only [List.length_append, List.length_cons, List.length_nil]; omega)]
    simp
theorem bytes_app (a b : ByteArray) : bytesOf (a ++ b) = bytesOf a ++ bytesOf b := by
  simp [strNums, ByteArray.data_append]
theorem blank_sp : blankM 32 = true := by decide
theorem ends_sp (w : List Int) : endsN (32 :: w) := .inr ⟨32, w, rfl, by decide, by decide⟩
theorem ends_comma (w : List Int) : endsN (44 :: w) := .inr ⟨44, w, rfl, by decide, by decide⟩
theorem ends_semi (w : List Int) : endsN (59 :: w) := .inr ⟨59, w, rfl, by decide, by decide⟩
theorem Lx.name' {s : ByteArray} {w : List Int} {ts : List Tok} (hb : nameM s.size 0 (bytesOf s) = true) (he : endsN w) (h : Lx w ts) : Lx (bytesOf s ++ w) ((1, s) :: ts) := by
  have := Lx.name (b := bytesOf s) (by rw [bytesOf_length]; exact hb) he h
  rwa [show numsStr (bytesOf s) = s from strOf_bytesOf s] at this
theorem Lx.semi {w : List Int} {ts : List Tok} (h : Lx w ts) : Lx (59 :: 32 :: w) ((2, mSemi) :: ts) := Lx.mark (c := 59) (by decide) (by decide) (by decide) (h.blank blank_sp)
theorem free_name {s : ByteArray} (h : freeM s = true) : nameM s.size 0 (bytesOf s) = true := by
  unfold freeM at h; rw [Bool.and_eq_true] at h; exact h.1
theorem tyAt_name : ∀ t : Int, inB t 1 4 = true → nameM (tyAt t).size 0 (bytesOf (tyAt t)) = true := by
  intro t h
  have := inB_iff.1 h
  have : t = 1 ∨ t = 2 ∨ t = 3 ∨ t = 4 := by omega
  rcases this with e | e | e | e <;> subst e <;> decide +kernel
/-- a text piece -/
def colBy (c : Col) : List Int := bytesOf c.1 ++ 32 :: (bytesOf (tyAt c.2.1) ++ ((bif c.2.2 then 32 :: bytesOf wNull else []) ++ [59, 32]))
theorem colS_bytes (s : ByteArray) (c : Col) : bytesOf (colS s c) = bytesOf s ++ colBy c := by
  have e1 : bytesOf (⟨#[32]⟩ : ByteArray) = [32] := by decide +kernel
  have e2 : bytesOf (⟨#[32, 110, 117, 108, 108]⟩ : ByteArray) = 32 :: bytesOf wNull := by decide +kernel
  have e3 : bytesOf (⟨#[59, 32]⟩ : ByteArray) = [59, 32] := by decide +kernel
  unfold colS colBy
  cases c.2.2 <;> simp only [cond_true, cond_false, bytes_app, e1, e2, e3] <;> simp
theorem foldl_bytes {β : Type} (f : ByteArray → β → ByteArray) (g : β → List Int) (h : ∀ s x, bytesOf (f s x) = bytesOf s ++ g x) : ∀ (l : List β) (s : ByteArray), bytesOf (l.foldl f s) = bytesOf s ++ l.flatMap g
  | [], s => by simp
  | x :: r, s => by rw [List.foldl_cons, foldl_bytes f g h r, h, List.flatMap_cons, List.append_assoc]
theorem null_name : nameM wNull.size 0 (bytesOf wNull) = true ∧ nameM wDesc.size 0 (bytesOf wDesc) = true ∧ nameM wTable.size 0 (bytesOf wTable) = true ∧ nameM wPrimary.size 0 (bytesOf wPrimary) = true ∧ nameM wUnique.size 0 (bytesOf wUnique) = true ∧ nameM wIndex.size 0 (bytesOf wIndex) = true := by decide +kernel
theorem Lx.col {c : Col} {w : List Int} {ts : List Tok} (hf : freeM c.1 = true) (ht : inB c.2.1 1 4 = true) (h : Lx w ts) : Lx (colBy c ++ w) (colToks c ++ ts) := by
  unfold colBy colToks
  simp only [List.append_assoc, List.cons_append, List.nil_append]
  refine Lx.name' (free_name hf) (ends_sp _) (Lx.blank blank_sp ?_)
  cases c.2.2 with
  | true =>
    simp only [cond_true, List.cons_append, List.nil_append]
    exact Lx.name' (tyAt_name _ ht) (ends_sp _) (Lx.blank blank_sp (Lx.name' null_name.1 (ends_semi _) h.semi))
  | false =>
    simp only [cond_false, List.nil_append]
    exact Lx.name' (tyAt_name _ ht) (ends_semi _) h.semi
theorem Lx.cols {w : List Int} {ts : List Tok} (h : Lx w ts) : ∀ (cs : List Col), (∀ c ∈ cs, freeM c.1 = true ∧ inB c.2.1 1 4 = true) → Lx (cs.flatMap colBy ++ w) (cs.flatMap colToks ++ ts)
  | [], _ => h
  | c :: cs, hc => by
    rw [List.flatMap_cons, List.flatMap_cons, List.append_assoc, List.append_assoc]
    exact Lx.col (hc c List.mem_cons_self).1 (hc c List.mem_cons_self).2 (Lx.cols h cs fun x hx => hc x (List.mem_cons_of_mem _ hx))
theorem Lx.parts {cs : List Col} (hn : ∀ c ∈ cs, freeM c.1 = true) {w : List Int} {ts : List Tok} (h : Lx w ts) {ps : List By} (hp : partsM cs.length ps = true) : Lx (bytesOf (partTx cs ps) ++ w) (partsToks cs ps ++ ts) := by
  have pin := partsM_in hp
  have ll := partsM_len hp
  have e1 : bytesOf (⟨#[32, 100, 101, 115, 99]⟩ : ByteArray) = 32 :: bytesOf wDesc := by decide +kernel
  have e2 : bytesOf (⟨#[44, 32]⟩ : ByteArray) = [44, 32] := by decide +kernel
  have e3 : bytesOf (⟨#[59, 32]⟩ : ByteArray) = [59, 32] := by decide +kernel
  have one : ∀ p ∈ ps, ∀ {c : Int} {w : List Int} {ts : List Tok}, endsN (c :: w) → Lx (c :: w) ts → Lx (bytesOf (partOne cs p) ++ c :: w) (partToks cs p ++ ts) := fun p hp c w ts he h => by
    have nm := free_name (hn _ (at_mem (z := (ByteArray.empty, (0 : Int), false)) (pin p hp).1 (pin p hp).2))
    unfold partOne partToks
    cases p.2 with
    | true =>
      simp only [cond_true, bytes_app, e1, List.append_assoc, List.cons_append, List.nil_append]
      exact Lx.name' nm (ends_sp _) (Lx.blank blank_sp (Lx.name' null_name.2.1 he h))
    | false =>
      simp only [cond_false, List.cons_append, List.nil_append]
      exact Lx.name' nm he h
  match ps, one, ll with
  | [p], one, _ =>
    unfold partTx
    rw [bytes_app, e3, partsToks, List.append_assoc, List.append_assoc]
    exact one p List.mem_cons_self (ends_semi _) h.semi
  | [p, q], one, _ =>
    unfold partTx
    rw [bytes_app, bytes_app, bytes_app, e2, e3, partsToks, partsToks]
    simp only [List.append_assoc, List.cons_append, List.nil_append]
    exact one p List.mem_cons_self (ends_comma _) (Lx.mark (c := 44) (by decide) (by decide) (by decide) (Lx.blank blank_sp (one q (List.mem_cons_of_mem _ List.mem_cons_self) (ends_semi _) h.semi)))
  | [], _, l => exact absurd l.1 (by simp)
  | _ :: _ :: _ :: _, _, l => exact absurd l.2 (by simp only [List.length_cons]; omega)
def idxBy (cs : List Col) (x : Ix) : List Int := bytesOf (bif x.2.1 then wUnique else wIndex) ++ 32 :: (bytesOf x.1 ++ 32 :: bytesOf (partTx cs x.2.2))
theorem idxS_bytes (cs : List Col) (s : ByteArray) (x : Ix) : bytesOf (idxS cs s x) = bytesOf s ++ idxBy cs x := by
  have e1 : bytesOf (⟨#[32]⟩ : ByteArray) = [32] := by decide +kernel
  have e2 : bytesOf (⟨#[117, 110, 105, 113, 117, 101, 32]⟩ : ByteArray) = bytesOf wUnique ++ [32] := by decide +kernel
  have e3 : bytesOf (⟨#[105, 110, 100, 101, 120, 32]⟩ : ByteArray) = bytesOf wIndex ++ [32] := by decide +kernel
  unfold idxS idxBy
  cases x.2.1 <;> simp only [cond_true, cond_false, bytes_app, e1, e2, e3] <;> simp
theorem Lx.idxs {cs : List Col} (hn : ∀ c ∈ cs, freeM c.1 = true) {w : List Int} {ts : List Tok} (h : Lx w ts) : ∀ (xs : List Ix), (∀ x ∈ xs, freeM x.1 = true ∧ partsM cs.length x.2.2 = true) → Lx (xs.flatMap (idxBy cs) ++ w) (xs.flatMap (idxToks cs) ++ ts)
  | [], _ => h
  | x :: xs, hx => by
    rw [List.flatMap_cons, List.flatMap_cons, List.append_assoc, List.append_assoc]
    have ih := Lx.idxs hn h xs fun y hy => hx y (List.mem_cons_of_mem _ hy)
    have q := hx x List.mem_cons_self
    unfold idxBy idxToks
    simp only [List.append_assoc, List.cons_append]
    have un : nameM (bif x.2.1 then wUnique else wIndex).size 0 (bytesOf (bif x.2.1 then wUnique else wIndex)) = true := by
      cases x.2.1
      · exact null_name.2.2.2.2.2
      · exact null_name.2.2.2.2.1
    exact Lx.name' un (ends_sp _) (Lx.blank blank_sp (Lx.name' (free_name q.1) (ends_sp _) (Lx.blank blank_sp (Lx.parts hn ih q.2))))
theorem Lx.table {x : Df} (g : goodM x) {w : List Int} {ts : List Tok} (h : Lx w ts) : Lx (bytesOf (defTx x) ++ w) (defToks x ++ ts) := by
  have n := g.names
  have t := g.types
  obtain ⟨p1, p2⟩ := g.parts
  have e1 : bytesOf (⟨#[116, 97, 98, 108, 101, 32]⟩ : ByteArray) = bytesOf wTable ++ [32] := by decide +kernel
  have e2 : bytesOf (⟨#[32, 123, 32]⟩ : ByteArray) = [32, 123, 32] := by decide +kernel
  have e3 : bytesOf (⟨#[112, 114, 105, 109, 97, 114, 121, 32]⟩ : ByteArray) = bytesOf wPrimary ++ [32] := by decide +kernel
  have e4 : bytesOf (⟨#[125]⟩ : ByteArray) = [125] := by decide +kernel
  have e : defTx x = restTx x (x.2.1.foldl colS (headTx x)) := by unfold defTx; rw [decide_eq_true (checkM_iff.2 g)]; rfl
  rw [e]
  unfold restTx headTx defToks
  rw [bytes_app, foldl_bytes _ _ (idxS_bytes x.2.1), bytes_app, bytes_app, foldl_bytes _ _ colS_bytes, bytes_app, bytes_app, e1, e2, e3, e4]
  simp only [List.append_assoc, List.cons_append, List.nil_append]
  refine Lx.name' null_name.2.2.1 (ends_sp _) (Lx.blank blank_sp (Lx.name' (free_name n.1) (ends_sp _) (Lx.blank blank_sp (Lx.mark (c := 123) (by decide) (by decide) (by decide) (Lx.blank blank_sp ?_)))))
  refine Lx.cols (Lx.name' null_name.2.2.2.1 (ends_sp _) (Lx.blank blank_sp (Lx.parts n.2.1 (Lx.idxs n.2.1 (Lx.mark (c := 125) (by decide) (by decide) (by decide) h) _ fun y hy => ⟨n.2.2 y hy, p2 y hy⟩) p1))) _ fun c hc => ⟨n.2.1 c hc, t.1 c hc⟩
theorem Lx.all : ∀ (l : List Df), (∀ x ∈ l, goodM x) → Lx (bytesOf (defsTx l)) (allToks l) := by
  intro l h
  have e : bytesOf (defsTx l) = l.flatMap fun x => bytesOf (defTx x) ++ [10] := by
    unfold defsTx
    rw [foldl_bytes defsS (fun x => bytesOf (defTx x) ++ [10])]
    · have : bytesOf (⟨#[]⟩ : ByteArray) = [] := by decide +kernel
      rw [this, List.nil_append]
    · intro s x
      have e10 : bytesOf (⟨#[10]⟩ : ByteArray) = [10] := by decide +kernel
      unfold defsS
      rw [bytes_app, bytes_app, e10]
  rw [e]
  clear e
  induction l with
  | nil => exact Lx.nil
  | cons x l ih =>
    rw [List.flatMap_cons, List.append_assoc]
    have ihl := ih fun y hy => h y (List.mem_cons_of_mem _ hy)
    have := Lx.table (h x List.mem_cons_self) (Lx.blank (c := 10) (by decide) ihl)
    simpa [allToks] using this
def nmT : ByteArray := ⟨#[116]⟩
def nmU : ByteArray := ⟨#[117]⟩
/-- tables that are drawn, and right -/
def drawnL (l : List Df) : Prop := ∃ x, drawn nmT x ∧ (l = [x] ∨ ∃ y, drawn nmU y ∧ l = [x, y])
theorem drawnL.tab {l : List Df} (h : drawnL l) : 1 ≤ l.length ∧ l.length ≤ 2 ∧ ∀ x ∈ l, tabD 7 x := by
  have up : ∀ {x : Df}, tabD 5 x → tabD 7 x := fun {x} t => by
    obtain ⟨a, ⟨b, c⟩, e, f, g⟩ := t
    exact ⟨a, ⟨by omega, c⟩, by omega, by omega, fun y hy => by have := g y hy; omega⟩
  obtain ⟨x, hx, rfl | ⟨y, hy, rfl⟩⟩ := h
  · exact ⟨by simp, by simp, fun z hz => by rw [List.mem_singleton.1 hz]; exact up (hx.tab (by decide))⟩
  · refine ⟨by simp, by simp, fun z hz => ?_⟩
    rcases List.mem_cons.1 hz with e | hz
    · rw [e]; exact up (hx.tab (by decide))
    · rw [List.mem_singleton.1 hz]; exact up (hy.tab (by decide))
theorem goodM.fit {x : Df} (g : goodM x) : dfFit 1000 x := by
  obtain ⟨hn, hc, h1, hx⟩ := g.cols
  have t := g.types
  obtain ⟨p1, p2⟩ := g.parts
  have l := partsM_len p1
  have x2 := g.2.2.2.1
  exact ⟨by omega, ⟨by omega, fun c hc => by have := hn c hc; omega⟩, by omega, by omega, fun y hy => by have := hx y hy; have := partsM_len (p2 y hy); omega⟩
end Go.PV.T
