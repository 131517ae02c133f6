/- Functions of the program by their own lists and numbers. No condition beyond those in each statement. -/
import Derived.Test.YtipehkeabnfngaaDoorPvPLx3
import Derived.Lib.Join
import Derived.KernelRfl
set_option linter.unusedVariables false
set_option linter.unusedSimpArgs false
set_option linter.unusedVariables false
namespace Go.PV.T
open Go Go.Proofs
theorem in_def (a lo hi : Int) : (bif decide (a ≥ lo) then some (decide (a ≤ hi)) else some false) = some (inB a lo hi) := by
  by_cases h : lo ≤ a <;> simp [inB, h]
theorem impl_in.sp {d : Nat} (hd : 1 ≤ d) (a lo hi : Int) : impl_in.f d (a, lo, hi) = some (inB a lo hi) := by
  obtain ⟨d, rfl, hd⟩ := dep hd
  rw [impl_in.t_eq]
  exact in_def a lo hi
theorem spec_l1In.sp {d : Nat} (hd : 1 ≤ d) (a lo hi : Int) : spec_l1In.f d (a, lo, hi) = some (inB a lo hi) := by
  obtain ⟨d, rfl, hd⟩ := dep hd
  rw [spec_l1In.t_eq]
  exact in_def a lo hi
abbrev Dk := (List (List Int)) × (List (Int × (List Int))) × Int × (List (Int × Int × Int)) × Bool
/-- a disk's rows are no longer than memory holds -/
def dkFit (x : Dk) : Prop := (x.1.length ≤ 140737488351232 ∧ ∀ y ∈ x.1, y.length ≤ 140737488351232) ∧ (x.2.1.length ≤ 140737488351232 ∧ ∀ y ∈ x.2.1, y.2.length ≤ 140737488351232) ∧ x.2.2.2.1.length ≤ 140737488351232
def ww (x : Int × List Int) : Nat := x.2.length + 1
def dkW (x : Dk) : Nat := wSum List.length x.1 + wSum ww x.2.1 + wSum (fun _ : Int × Int × Int => 3) x.2.2.2.1
def dkOk (x : Dk) : Prop := okV (.row (.one (.row (.one (.int .u8))))) x.1 ∧ okV (.row (.cons (.int .i64) (.one (.row (.one (.int .u8)))))) x.2.1 ∧ okV (.row (.cons (.int .i64) (.cons (.int .i64) (.one (.int .i64))))) x.2.2.2.1
theorem okRow_len {cs : SS} {l : List cs.T} (h : okV (.row cs) l) : l.length ≤ 140737488351232 := Nat.le_trans (Nat.le_mul_of_pos_right _ (SS.size_pos cs)) h.1
theorem dkOk.fit {x : Dk} (h : dkOk x) : dkFit x :=
  ⟨⟨okRow_len h.1, fun y hy => okRow_len (h.1.2 y hy)⟩, ⟨okRow_len (cs := .cons (.int .i64) (.one (.row (.one (.int .u8))))) h.2.1, fun y hy => okRow_len (h.2.1.2 y hy).2⟩, okRow_len (cs := .cons (.int .i64) (.cons (.int .i64) (.one (.int .i64)))) h.2.2⟩
/-- no more than a million -/
def dkSm (x : Dk) : Prop := (x.1.length ≤ 1048576 ∧ ∀ y ∈ x.1, y.length ≤ 1048576) ∧ (x.2.1.length ≤ 1048576 ∧ ∀ y ∈ x.2.1, y.2.length ≤ 1048576) ∧ x.2.2.2.1.length ≤ 1048576 ∧ dkW x ≤ 10000000
theorem dkSm.fit {x : Dk} (h : dkSm x) : dkFit x := ⟨⟨by have := h.1.1; omega, fun y hy => by have := h.1.2 y hy; omega⟩, ⟨by have := h.2.1.1; omega, fun y hy => by have := h.2.1.2 y hy; omega⟩, by have := h.2.2.1; omega⟩
/-- rows and numbers of a size that may be marked -/
def dkB (x : Dk) : Prop := (x.1.length ≤ 1048577 ∧ ∀ y ∈ x.1, y.length ≤ 1048577) ∧ (x.2.1.length ≤ 1048577 ∧ ∀ y ∈ x.2.1, y.2.length ≤ 1048577) ∧ x.2.2.2.1.length ≤ 1048577
theorem dkB.fit {x : Dk} (h : dkB x) : dkFit x := ⟨⟨by have := h.1.1; omega, fun y hy => by have := h.1.2 y hy; omega⟩, ⟨by have := h.2.1.1; omega, fun y hy => by have := h.2.1.2 y hy; omega⟩, by have := h.2.2; omega⟩
theorem and_le_nat (x : Int) (n : Nat) (hn : n < 2 ^ 62) : 0 ≤ Go.bits .and .i64 x (n : Int) ∧ Go.bits .and .i64 x (n : Int) ≤ n := by
  have e : (BitVec.ofInt IntKind.i64.bits ((n : Nat) : Int)).toNat = n := by
    rw [BitVec.ofInt_natCast, BitVec.toNat_ofNat]
    exact Nat.mod_eq_of_lt (Nat.lt_of_lt_of_le hn (Nat.pow_le_pow_right (by decide) (by decide)))
  have h : (BitVec.ofInt IntKind.i64.bits x &&& BitVec.ofInt IntKind.i64.bits ((n : Nat) : Int)).toNat ≤ n := by
    rw [BitVec.toNat_and, e]
    exact Nat.and_le_right
  have g : Go.bits .and .i64 x (n : Int) = IntKind.i64.wrap ((BitVec.ofInt IntKind.i64.bits x &&& BitVec.ofInt IntKind.i64.bits ((n : Nat) : Int)).toNat : Int) := rfl
  rw [g, IntKind.wrap_i64]
  omega
theorem low_byte (x : Int) : 0 ≤ IntKind.wrap IntKind.i64 ((BitVec.ofInt (IntKind.bits IntKind.i64) x &&& BitVec.ofInt (IntKind.bits IntKind.i64) (255 : Int)).toNat : Int) ∧ IntKind.wrap IntKind.i64 ((BitVec.ofInt (IntKind.bits IntKind.i64) x &&& BitVec.ofInt (IntKind.bits IntKind.i64) (255 : Int)).toNat : Int) ≤ 255 := and_le_nat x 255 (by decide)
/-- a cursor over bytes -/
def cur (b : List Int) (p : Int) : Prop := b.length ≤ 1048576 ∧ 0 ≤ p ∧ p ≤ b.length
theorem spec_l1New.sp {d : Nat} (hd : 1 ≤ d) {b : List Int} (hl : b.length ≤ 1048576) : Tells (spec_l1New.f d b) fun r => r.1 = b ∧ cur b r.2.1 := by
  obtain ⟨d, rfl, _⟩ := dep hd
  rw [spec_l1New.t_eq]
  dsimp only [spec_l1New.m]
  refine loop0 (σ := Int) (spec_l1New.S0 d) (min b.length 4000) (fun x i => (b, x, i)) (fun _ _ => True) (fun _ _ r => r.1 = b ∧ cur b r.2.1) _ (by omega) trivial ?_ ?_
  · intro L x _
    have hc : cur b 0 := ⟨hl, by omega, by omega⟩
    dsimp only [spec_l1New.S0, spec_l1New.s0]
    exact tif (fun _ => tif (fun _ => ti (by omega) (by omega)) fun _ => tl ⟨rfl, hc⟩) fun _ => tl ⟨rfl, hc⟩
  · intro L x i _ hi ih
    dsimp only [spec_l1New.S0, spec_l1New.s0]
    refine tp (by omega) (tp (by omega) (ti (by omega) ?_))
    rw [wrap_succ (by omega)]
    exact ih _ trivial
theorem spec_l1Byte.sp {d : Nat} (hd : 1 ≤ d) {b : List Int} {p x : Int} (hc : cur b p) : Tells (spec_l1Byte.f d (b, p, x)) fun r => 0 ≤ r.1 ∧ r.1 ≤ 255 ∧ cur b r.2.1 := by
  obtain ⟨d, rfl, _⟩ := dep hd
  rw [spec_l1Byte.t_eq]
  dsimp only [spec_l1Byte.m]
  obtain ⟨h1, h2, h3⟩ := hc
  refine tp (by decide) (tp (by decide) (tif (fun c => tt (by rw [decide_eq_true h2, decide_eq_true c]; rfl) (tl ?_)) fun c => tl ?_))
  · refine ⟨(low_byte _).1, (low_byte _).2, h1, ?_⟩
    show 0 ≤ IntKind.wrap IntKind.i64 (p + 1) ∧ IntKind.wrap IntKind.i64 (p + 1) ≤ (b.length : Int)
    rw [wrap_id (x := p + 1) (by omega) (by omega)]
    omega
  · exact ⟨(low_byte _).1, (low_byte _).2, h1, h2, h3⟩
theorem spec_l1Below.sp {d : Nat} (hd : 2 ≤ d) {b : List Int} {p x n : Int} (hc : cur b p) : Tells (spec_l1Below.f d (b, p, x, n)) fun r => 0 ≤ r.1 ∧ (0 < n → r.1 < n) ∧ cur b r.2.1 := by
  obtain ⟨d, rfl, _⟩ := dep hd
  rw [spec_l1Below.t_eq]
  dsimp only [spec_l1Below.m]
  refine tif (fun c => tl ⟨by omega, fun h => by omega, hc⟩) fun c => tif (fun c2 => ?_) fun c2 => ?_
  · refine tb (spec_l1Byte.sp (by omega) hc) fun r hr => tp (by omega) (tl ?_)
    rw [Int.tmod_eq_emod_of_nonneg hr.1]
    exact ⟨Int.emod_nonneg _ (by omega), fun _ => Int.emod_lt_of_pos _ (by omega), hr.2.2⟩
  · refine tb (spec_l1Byte.sp (by omega) hc) fun r2 h2 => tb (spec_l1Byte.sp (by omega) h2.2.2) fun r3 h3 => tb (spec_l1Byte.sp (by omega) h3.2.2) fun r4 h4 => tp (by omega) (tl ?_)
    have e : IntKind.wrap IntKind.i64 ((IntKind.wrap IntKind.i64 ((IntKind.wrap IntKind.i64 (r2.1 * (65536 : Int))) + (IntKind.wrap IntKind.i64 (r3.1 * (256 : Int))))) + r4.1) = r2.1 * 65536 + r3.1 * 256 + r4.1 := by
      rw [wrap_id (x := r2.1 * 65536) (by omega) (by omega), wrap_id (x := r3.1 * 256) (by omega) (by omega), wrap_id (x := r2.1 * 65536 + r3.1 * 256) (by omega) (by omega), wrap_id (by omega) (by omega)]
    rw [e, Int.tmod_eq_emod_of_nonneg (by omega)]
    exact ⟨Int.emod_nonneg _ (by omega), fun _ => Int.emod_lt_of_pos _ (by omega), h4.2.2⟩
theorem spec_l1Int.sp {d : Nat} (hd : 3 ≤ d) {b : List Int} {p x : Int} {l : List Int} (hc : cur b p) (h0 : 0 < l.length) : Tells (spec_l1Int.f d (b, p, x, l)) fun r => r.1 ∈ l ∧ cur b r.2.1 := by
  obtain ⟨d, rfl, _⟩ := dep hd
  rw [spec_l1Int.t_eq]
  dsimp only [spec_l1Int.m]
  refine tb (spec_l1Below.sp (by omega) hc) fun r hr => ?_
  have hlt := hr.2.1 (by omega)
  have hi : r.1.toNat < l.length := by omega
  have e : r.1 = ((r.1.toNat : Nat) : Int) := by omega
  rw [e]
  refine ti hi (tl ?_)
  rw [getD_in hi]
  exact ⟨List.getElem_mem hi, hr.2.2⟩
theorem spec_l1Once.sp {d : Nat} (hd : 3 ≤ d) {b : List Int} {p x n : Int} (hc : cur b p) : Tells (spec_l1Once.f d (b, p, x, n)) fun r => cur b r.2.1 := by
  obtain ⟨d, rfl, _⟩ := dep hd
  rw [spec_l1Once.t_eq]
  dsimp only [spec_l1Once.m]
  exact tb (spec_l1Below.sp (by omega) hc) fun r hr => tl hr.2.2
theorem laws_big.sp {d : Nat} (hd : 1 ≤ d) (b : List Int) : laws_big.f d b = some (decide ((b.length : Int) > 1048576)) := by
  obtain ⟨d, rfl, _⟩ := dep hd
  rw [laws_big.t_eq]
  rfl
abbrev Col := ByteArray × Int × Bool
abbrev By := Int × Bool
abbrev Ix := ByteArray × Bool × List (Int × Bool)
abbrev Df := ByteArray × List (ByteArray × Int × Bool) × List (Int × Bool) × List (ByteArray × Bool × List (Int × Bool))
abbrev Pt := Int × Int × Bool × Bool
theorem loopL {A R β : Type} (s : (A → Option R) → A → Option R) (l : List β) (mk : Int → A) (F : Nat → List β → R) (hl : l.length ≤ 4611686018427387904)
    (base : ∀ L, Tells (s L (mk (l.length : Int))) (· = F l.length []))
    (step : ∀ L i (hi : i < l.length), Tells (L (mk ((i + 1 : Nat) : Int))) (· = F (i + 1) (l.drop (i + 1))) → Tells (s L (mk (i : Int))) (· = F i (l[i] :: l.drop (i + 1)))) :
    Tells (iter s rnds (mk (0 : Int))) (· = F 0 l) := by
  have := loopE s l.length mk (fun i r => r = F i (l.drop i)) hl (fun L => by
    rw [List.drop_length]; exact base L) fun L i hi ih => by
    rw [drop_at hi]; exact step L i hi ih
  simpa using this
/-- a loop that stops with v at the first element that p takes -/
theorem loopStop {A R β : Type} (s : (A → Option R) → A → Option R) (l : List β) (mk : Int → A) (p : β → Bool) (v R0 : R) (hl : l.length ≤ 4611686018427387904)
    (base : ∀ L, Tells (s L (mk (l.length : Int))) (· = R0))
    (step : ∀ L i (hi : i < l.length) e, Tells (L (mk ((i + 1 : Nat) : Int))) (· = e) → Tells (s L (mk (i : Int))) (· = bif p l[i] then v else e)) :
    Tells (iter s rnds (mk (0 : Int))) (· = bif l.any p then v else R0) := by
  refine loopL s l mk (fun _ r => bif r.any p then v else R0) hl (fun L => base L) fun L i hi ih => ?_
  refine (step L i hi _ ih).mono fun r hr => ?_
  rw [hr, List.any_cons]
  cases p l[i] <;> rfl
/-- a loop that all elements pass -/
theorem loopPass {A R β : Type} (s : (A → Option R) → A → Option R) (l : List β) (mk : Int → A) (Q : R → Prop) (hl : l.length ≤ 4611686018427387904)
    (base : ∀ L, Tells (s L (mk (l.length : Int))) Q)
    (step : ∀ L i (hi : i < l.length), Tells (L (mk ((i + 1 : Nat) : Int))) Q → Tells (s L (mk (i : Int))) Q) :
    Tells (iter s rnds (mk (0 : Int))) Q := loopE s l.length mk (fun _ => Q) hl base step
/-- The words that are no names. -/
def wordsL : List ByteArray := [(⟨#[116, 97, 98, 108, 101]⟩ : ByteArray), (⟨#[112, 114, 105, 109, 97, 114, 121]⟩ : ByteArray), (⟨#[117, 110, 105, 113, 117, 101]⟩ : ByteArray), (⟨#[105, 110, 100, 101, 120]⟩ : ByteArray), (⟨#[110, 117, 108, 108]⟩ : ByteArray), (⟨#[100, 101, 115, 99]⟩ : ByteArray), (⟨#[105, 110, 116]⟩ : ByteArray), (⟨#[110, 117, 109]⟩ : ByteArray), (⟨#[116, 101, 120, 116]⟩ : ByteArray), (⟨#[98, 111, 111, 108]⟩ : ByteArray)]
theorem toList_inj {a b : ByteArray} (h : a.toList = b.toList) : a = b := by
  rw [ByteArray.toList_eq, ByteArray.toList_eq] at h
  exact ByteArray.ext (Array.toList_inj.1 h)
def isT (a b : ByteArray) : Bool := a.toList == b.toList
theorem isT_iff {a b : ByteArray} : isT a b = true ↔ a = b := by
  unfold isT
  rw [beq_iff_eq]
  exact ⟨toList_inj, fun h => by rw [h]⟩
def freeM (s : ByteArray) : Bool := nameM s.size 0 (bytesOf s) && !(wordsL.any fun w => isT w s)
def namesM (d : Df) : Bool := d.2.1.all (fun c => freeM c.1) && (d.2.2.2.all (fun x => freeM x.1) && freeM d.1)
def typesM (cs : List Col) : Bool := cs.all (fun c => inB c.2.1 1 4) && inB cs.length 1 6
/-- No name stands twice: p are those that came before. -/
def onceR : List ByteArray → List ByteArray → Bool
  | _, [] => true
  | p, x :: r => !(p.any fun y => isT y x) && onceR (p ++ [x]) r
def onceM (d : Df) : Bool := onceR [] (d.2.1.map (·.1)) && onceR [] (d.2.2.2.map (·.1))
def partsM (n : Int) (ps : List By) : Bool := match ps with
  | [a] => inB a.1 0 (n - 1)
  | [a, b] => inB a.1 0 (n - 1) && (inB b.1 0 (n - 1) && !decide (a.1 = b.1))
  | _ => false
theorem partsM_in {n : Int} {ps : List By} (h : partsM n ps = true) : ∀ p ∈ ps, 0 ≤ p.1 ∧ p.1 < n := by
  unfold partsM at h
  match ps, h with
  | [a], h => intro p hp; rw [List.mem_singleton] at hp; rw [hp]; have := inB_iff.1 h; omega
  | [a, b], h =>
    simp only [Bool.and_eq_true] at h
    have h1 := inB_iff.1 h.1
    have h2 := inB_iff.1 h.2.1
    intro p hp
    simp only [List.mem_cons, List.not_mem_nil, or_false] at hp
    rcases hp with e | e <;> rw [e] <;> omega
theorem partsM_len {n : Int} {ps : List By} (h : partsM n ps = true) : 1 ≤ ps.length ∧ ps.length ≤ 2 := by
  unfold partsM at h
  match ps, h with
  | [a], _ => exact ⟨by simp, by simp⟩
  | [a, b], _ => exact ⟨by simp, by simp⟩
theorem partsM_not {n : Int} {ps : List By} (h : ¬ inB ps.length 1 2 = true) : partsM n ps = false := by
  cases c : partsM n ps with
  | false => rfl
  | true => have := partsM_len c; exact absurd (inB_iff.2 ⟨by omega, by omega⟩) h
def allPartsM (d : Df) : Bool := d.2.2.2.all (fun x => partsM d.2.1.length x.2.2) && partsM d.2.1.length d.2.2.1
def colAt (cs : List Col) (i : Int) : Col := List.getD cs (Int.toNat i) (ByteArray.empty, (0 : Int), false)
def ixAt (xs : List Ix) (i : Int) : Ix := List.getD xs (Int.toNat i) (ByteArray.empty, false, ([] : List (Int × Bool)))
def nullAt (cs : List Col) (p : By) : Bool := (colAt cs p.1).2.2
/-- What is wrong with a table. -/
def checkM (d : Df) : Int :=
  bif namesM d then (bif typesM d.2.1 then (bif onceM d then (bif decide ((d.2.2.2.length : Int) > 2) then 6 else bif allPartsM d then (bif d.2.2.1.any (nullAt d.2.1) then 4 else 0) else 5) else 3) else 2) else 1
def goodM (d : Df) : Prop := namesM d = true ∧ typesM d.2.1 = true ∧ onceM d = true ∧ d.2.2.2.length ≤ 2 ∧ allPartsM d = true ∧ d.2.2.1.any (nullAt d.2.1) = false
theorem checkM_iff {d : Df} : checkM d = 0 ↔ goodM d := by
  unfold checkM goodM
  cases namesM d <;> cases typesM d.2.1 <;> cases onceM d <;> cases allPartsM d <;> cases d.2.2.1.any (nullAt d.2.1) <;> by_cases h : (d.2.2.2.length : Int) > 2 <;> simp [h] <;> omega
theorem at_mem {β : Type} {l : List β} {i : Int} {z : β} (h0 : 0 ≤ i) (h1 : i < l.length) : List.getD l (Int.toNat i) z ∈ l := by
  have e : i = ((i.toNat : Nat) : Int) := by omega
  rw [e, getD_in (show i.toNat < l.length by omega)]
  exact List.getElem_mem _
def mkPart (cs : List Col) (p : By) : Pt := (p.1, (colAt cs p.1).2.1, (colAt cs p.1).2.2, p.2)
def rowR : Nat → List Col → List Pt
  | _, [] => []
  | i, c :: r => ((i : Int), c.2.1, c.2.2, false) :: rowR (i + 1) r
def planR (d : Df) : List Pt := bif decide (checkM d = 0) then rowR 0 d.2.1 else []
def planP (d : Df) : List Pt := bif decide (checkM d = 0) then d.2.2.1.map (mkPart d.2.1) else []
def planI (d : Df) (i : Int) : List Pt :=
  bif decide (checkM d = 0) then (bif inB i 0 ((d.2.2.2.length : Int) - 1) then (ixAt d.2.2.2 i).2.2.map (mkPart d.2.1) ++ d.2.2.1.map (mkPart d.2.1) else []) else []
theorem rowR_len : ∀ (r : List Col) (i : Nat), (rowR i r).length = r.length
  | [], _ => rfl
  | c :: r, i => by rw [rowR, List.length_cons, rowR_len r (i + 1), List.length_cons]
theorem allParts_of {d : Df} (h : allPartsM d = true) : partsM d.2.1.length d.2.2.1 = true ∧ ∀ x ∈ d.2.2.2, partsM d.2.1.length x.2.2 = true := by
  unfold allPartsM at h
  rw [Bool.and_eq_true] at h
  exact ⟨h.2, fun x hx => List.all_eq_true.1 h.1 x hx⟩
theorem goodM.parts {d : Df} (h : goodM d) : partsM d.2.1.length d.2.2.1 = true ∧ ∀ x ∈ d.2.2.2, partsM d.2.1.length x.2.2 = true := allParts_of h.2.2.2.2.1
theorem goodM.types {d : Df} (h : goodM d) : (∀ c ∈ d.2.1, inB c.2.1 1 4 = true) ∧ 1 ≤ d.2.1.length ∧ d.2.1.length ≤ 6 := by
  have := h.2.1
  unfold typesM at this
  rw [Bool.and_eq_true] at this
  have q := inB_iff.1 this.2
  exact ⟨fun c hc => List.all_eq_true.1 this.1 c hc, by omega, by omega⟩
theorem goodM.names {d : Df} (h : goodM d) : freeM d.1 = true ∧ (∀ c ∈ d.2.1, freeM c.1 = true) ∧ ∀ x ∈ d.2.2.2, freeM x.1 = true := by
  have := h.1
  unfold namesM at this
  rw [Bool.and_eq_true, Bool.and_eq_true] at this
  exact ⟨this.2.2, fun c hc => List.all_eq_true.1 this.1 c hc, fun x hx => List.all_eq_true.1 this.2.1 x hx⟩
/-- a table's rows and texts are no longer than memory holds / than a million -/
def dfFit (k : Nat) (x : Df) : Prop := x.1.size ≤ k ∧ (x.2.1.length ≤ k ∧ ∀ y ∈ x.2.1, y.1.size ≤ k) ∧ x.2.2.1.length ≤ k ∧ (x.2.2.2.length ≤ k ∧ ∀ y ∈ x.2.2.2, y.1.size ≤ k ∧ y.2.2.length ≤ k)
theorem dfFit.mono {k m : Nat} {x : Df} (h : dfFit k x) (hm : k ≤ m) : dfFit m x :=
  ⟨by have := h.1; omega, ⟨by have := h.2.1.1; omega, fun y hy => by have := h.2.1.2 y hy; omega⟩, by have := h.2.2.1; omega, by have := h.2.2.2.1; omega, fun y hy => by have := h.2.2.2.2 y hy; omega⟩
theorem get_byte {s : ByteArray} {i : Nat} (h : i < (bytesOf s).length) : ((ByteArray.get! s (Int.toNat (i : Int))).toNat : Int) = (bytesOf s)[i] := by
  have h2 : i < s.data.size := by simpa [strNums] using h
  rw [Int.toNat_natCast]
  simp [strNums, ByteArray.get!, getElem!_pos s.data i h2]
theorem byte_in {s : ByteArray} {i : Nat} (h : i < (bytesOf s).length) : 0 ≤ (bytesOf s)[i] ∧ (bytesOf s)[i] ≤ 255 := bytesOf_bytes s _ (List.getElem_mem h)
theorem impl_isLetter.sp {d : Nat} (hd : 1 ≤ d) (a : Int) : impl_isLetter.f d a = some (inB a 97 122) := by
  obtain ⟨d, rfl, _⟩ := dep hd
  rw [impl_isLetter.t_eq]
  exact in_def a 97 122
theorem impl_isDigit.sp {d : Nat} (hd : 1 ≤ d) (a : Int) : impl_isDigit.f d a = some (inB a 48 57) := by
  obtain ⟨d, rfl, _⟩ := dep hd
  rw [impl_isDigit.t_eq]
  exact in_def a 48 57
theorem spec_l8Small.sp {d : Nat} (hd : 2 ≤ d) {a : Int} (h : 0 ≤ a ∧ a ≤ 255) : spec_l8Small.f d a = some (inB a 97 122) := by
  obtain ⟨d, rfl, _⟩ := dep hd
  rw [spec_l8Small.t_eq]
  dsimp only [spec_l8Small.m]
  rw [wrap_id (by omega) (by omega), spec_l1In.sp (by omega)]; rfl
theorem spec_l2Digit.sp {d : Nat} (hd : 2 ≤ d) {a : Int} (h : 0 ≤ a ∧ a ≤ 255) : spec_l2Digit.f d a = some (inB a 48 57) := by
  obtain ⟨d, rfl, _⟩ := dep hd
  rw [spec_l2Digit.t_eq]
  dsimp only [spec_l2Digit.m]
  rw [wrap_id (by omega) (by omega), spec_l1In.sp (by omega)]; rfl
theorem impl_nameOk.sp {d : Nat} (hd : 2 ≤ d) {s : ByteArray} (hs : s.size ≤ 140737488351232) : impl_nameOk.f d s = some (nameM s.size 0 (bytesOf s)) := by
  obtain ⟨d, rfl, _⟩ := dep hd
  rw [impl_nameOk.t_eq]
  dsimp only [impl_nameOk.m]
  have hl := bytesOf_length s
  refine Tells.eq (loopL (impl_nameOk.S0 d) (bytesOf s) (fun i => (s, i)) (fun i r => nameM s.size i r) (by omega) (fun L => ?_) fun L i hi ih => ?_)
  · dsimp only [impl_nameOk.S0, impl_nameOk.s0]
    exact tn (by omega) (tc (impl_in.sp (by omega) _ _ _) (tl rfl))
  · dsimp only [impl_nameOk.S0, impl_nameOk.s0]
    refine tp (by omega) (ti (by omega) ?_)
    rw [get_byte hi, wrap_succ (by omega)]
    refine tc (impl_isLetter.sp (by omega) _) ?_
    rw [nameM]
    by_cases c1 : inB (bytesOf s)[i] 97 122 = true
    · rw [if_pos c1]; exact tf (by rw [c1]; rfl) ih
    · rw [if_neg c1]
      refine tt (by simp [c1]) ?_
      by_cases c2 : i = 0
      · rw [if_pos c2]; exact tt (by simp [c2]) (tl rfl)
      · rw [if_neg c2]
        refine tf (by simp; omega) (ti (by omega) (tc (impl_isDigit.sp (by omega) _) ?_))
        by_cases c3 : inB (bytesOf s)[i] 48 57 = true
        · rw [if_pos c3]; exact tf (by rw [c3]; rfl) ih
        · rw [if_neg c3]; exact tt (by simp [c3]) (tl rfl)
theorem spec_l8Name.sp {d : Nat} (hd : 3 ≤ d) {s : ByteArray} (hs : s.size ≤ 140737488351232) : spec_l8Name.f d s = some (nameM s.size 0 (bytesOf s)) := by
  obtain ⟨d, rfl, _⟩ := dep hd
  rw [spec_l8Name.t_eq]
  dsimp only [spec_l8Name.m]
  have hl := bytesOf_length s
  refine Tells.eq (loopL (spec_l8Name.S0 d) (bytesOf s) (fun i => (s, i)) (fun i r => nameM s.size i r) (by omega) (fun L => ?_) fun L i hi ih => ?_)
  · dsimp only [spec_l8Name.S0, spec_l8Name.s0]
    exact tn (by omega) (tc (spec_l1In.sp (by omega) _ _ _) (tl rfl))
  · dsimp only [spec_l8Name.S0, spec_l8Name.s0]
    refine tp (by omega) (ti (by omega) ?_)
    have hb := byte_in hi
    rw [get_byte hi, wrap_succ (by omega)]
    refine tc (spec_l8Small.sp (by omega) hb) ?_
    rw [nameM]
    by_cases c1 : inB (bytesOf s)[i] 97 122 = true
    · rw [if_pos c1]; exact tf (by rw [c1]; rfl) ih
    · rw [if_neg c1]
      refine tt (by simp [c1]) ?_
      by_cases c2 : i = 0
      · rw [if_pos c2]; exact tt (by simp [c2]) (tl rfl)
      · rw [if_neg c2]
        refine tf (by simp; omega) (ti (by omega) (tc (spec_l2Digit.sp (by omega) hb) ?_))
        by_cases c3 : inB (bytesOf s)[i] 48 57 = true
        · rw [if_pos c3]; exact tf (by rw [c3]; rfl) ih
        · rw [if_neg c3]; exact tt (by simp [c3]) (tl rfl)
theorem spec_l9Has.sp {d : Nat} (hd : 1 ≤ d) {l : List ByteArray} (hl : l.length ≤ 140737488351232) (s : ByteArray) : spec_l9Has.f d (l, s) = some (l.any fun w => isT w s) := by
  obtain ⟨d, rfl, _⟩ := dep hd
  rw [spec_l9Has.t_eq]
  dsimp only [spec_l9Has.m]
  have := loopStop (spec_l9Has.S0 d) l (fun i => (l, s, i)) (fun w => isT w s) true false (by omega) (fun L => ?_) fun L i hi e ih => ?_
  · refine Tells.eq (this.mono fun r hr => ?_)
    rw [hr]; cases (l.any fun w => isT w s) <;> rfl
  · dsimp only [spec_l9Has.S0, spec_l9Has.s0]
    exact tn (by omega) (tl rfl)
  · dsimp only [spec_l9Has.S0, spec_l9Has.s0]
    refine tp (by omega) (ti hi ?_)
    rw [getD_in hi, wrap_succ (by omega)]
    exact tbif (fun c => tl (by rw [show isT l[i] s = true from c]; rfl)) fun c => by rw [show isT l[i] s = false from c]; exact ih
theorem spec_l9Word.sp {d : Nat} (hd : 4 ≤ d) {s : ByteArray} (hs : s.size ≤ 140737488351232) : spec_l9Word.f d s = some (freeM s) := by
  obtain ⟨d, rfl, _⟩ := dep hd
  rw [spec_l9Word.t_eq]
  dsimp only [spec_l9Word.m]
  refine Tells.eq (tc (spec_l8Name.sp (by omega) hs) (tbif (fun c => tc (spec_l9Has.sp (l := wordsL) (by omega) (by decide) s) (tl ?_)) fun c => tl ?_))
  · unfold freeM; rw [c]; rfl
  · unfold freeM; rw [c]; rfl
/-- a loop that ends with no at the first element that p does not take -/
theorem loopAnd {A β : Type} (s : (A → Option Bool) → A → Option Bool) (l : List β) (mk : Int → A) (p : β → Bool) (R0 : Bool) (hl : l.length ≤ 4611686018427387904)
    (base : ∀ L, Tells (s L (mk (l.length : Int))) (· = R0))
    (step : ∀ L i (hi : i < l.length) e, Tells (L (mk ((i + 1 : Nat) : Int))) (· = e) → Tells (s L (mk (i : Int))) (· = (p l[i] && e))) :
    Tells (iter s rnds (mk (0 : Int))) (· = (l.all p && R0)) := by
  refine loopL s l mk (fun _ r => r.all p && R0) hl base fun L i hi ih => ?_
  refine (step L i hi _ ih).mono fun r hr => ?_
  rw [hr, List.all_cons, Bool.and_assoc]
theorem spec_l9Names.sp {d : Nat} (hd : 5 ≤ d) {x : Df} (h : dfFit 140737488351232 x) : spec_l9Names.f d (x.1, x.2.1, x.2.2.1, x.2.2.2) = some (namesM x) := by
  obtain ⟨d, rfl, _⟩ := dep hd
  rw [spec_l9Names.t_eq]
  dsimp only [spec_l9Names.m]
  obtain ⟨h0, ⟨h1, h2⟩, h3, h4, h5⟩ := h
  refine Tells.eq (loopAnd (spec_l9Names.S0 d) x.2.1 (fun i => (i, x.1, x.2.1, x.2.2.1, x.2.2.2)) (fun c => freeM c.1) _ (by omega) (fun L => ?_) fun L i hi e ih => ?_)
  · dsimp only [spec_l9Names.S0, spec_l9Names.s0]
    refine tn (by omega) ?_
    refine loopAnd (spec_l9Names.S2 d) x.2.2.2 (fun i => (i, x.1, x.2.1, x.2.2.1, x.2.2.2)) (fun c => freeM c.1) _ (by omega) (fun L => ?_) fun L i hi e ih => ?_
    · dsimp only [spec_l9Names.S2, spec_l9Names.s2]
      exact tn (by omega) (tc (spec_l9Word.sp (by omega) h0) (tl rfl))
    · dsimp only [spec_l9Names.S2, spec_l9Names.s2]
      refine tp (by omega) (ti hi ?_)
      rw [getD_in hi, wrap_succ (by omega)]
      refine tc (spec_l9Word.sp (by omega) (h5 _ (List.getElem_mem hi)).1) ?_
      cases freeM x.2.2.2[i].1
      · exact tt rfl (tl rfl)
      · exact tf rfl ih
  · dsimp only [spec_l9Names.S0, spec_l9Names.s0]
    refine tp (by omega) (ti hi ?_)
    rw [getD_in hi, wrap_succ (by omega)]
    refine tc (spec_l9Word.sp (by omega) (h2 _ (List.getElem_mem hi))) ?_
    cases freeM x.2.1[i].1
    · exact tt rfl (tl rfl)
    · exact tf rfl ih
theorem spec_l9Types.sp {d : Nat} (hd : 2 ≤ d) {x : Df} (h : dfFit 140737488351232 x) : spec_l9Types.f d (x.1, x.2.1, x.2.2.1, x.2.2.2) = some (typesM x.2.1) := by
  obtain ⟨d, rfl, _⟩ := dep hd
  rw [spec_l9Types.t_eq]
  dsimp only [spec_l9Types.m]
  have h1 := h.2.1.1
  refine Tells.eq (loopAnd (spec_l9Types.S0 d) x.2.1 (fun i => (i, x.1, x.2.1, x.2.2.1, x.2.2.2)) (fun c => inB c.2.1 1 4) _ (by omega) (fun L => ?_) fun L i hi e ih => ?_)
  · dsimp only [spec_l9Types.S0, spec_l9Types.s0]
    exact tn (by omega) (tc (spec_l1In.sp (by omega) _ _ _) (tl rfl))
  · dsimp only [spec_l9Types.S0, spec_l9Types.s0]
    refine tp (by omega) (ti hi ?_)
    rw [getD_in hi, wrap_succ (by omega)]
    refine tc (spec_l1In.sp (by omega) _ _ _) ?_
    cases inB x.2.1[i].2.1 1 4
    · exact tt rfl (tl rfl)
    · exact tf rfl ih
def firstI (s : ByteArray) : Nat → List Col → Int
  | _, [] => -1
  | n, x :: r => bif isT x.1 s then (n : Int) else firstI s (n + 1) r
theorem spec_l9Col.sp {d : Nat} (hd : 1 ≤ d) {x : Df} (h : x.2.1.length ≤ 140737488351232) (s : ByteArray) : spec_l9Col.f d (x.1, x.2.1, x.2.2.1, x.2.2.2, s) = some (firstI s 0 x.2.1) := by
  obtain ⟨d, rfl, _⟩ := dep hd
  rw [spec_l9Col.t_eq]
  dsimp only [spec_l9Col.m]
  refine Tells.eq (loopL (spec_l9Col.S0 d) x.2.1 (fun i => (s, i, x.1, x.2.1, x.2.2.1, x.2.2.2)) (fun i r => firstI s i r) (by omega) (fun L => ?_) fun L i hi ih => ?_)
  · dsimp only [spec_l9Col.S0, spec_l9Col.s0]
    exact tn (by omega) (tl rfl)
  · dsimp only [spec_l9Col.S0, spec_l9Col.s0]
    refine tp (by omega) (ti hi ?_)
    rw [getD_in hi, wrap_succ (by omega), firstI]
    exact tbif (fun c => tl (by rw [show isT x.2.1[i].1 s = true from c]; rfl)) fun c => by rw [show isT x.2.1[i].1 s = false from c]; exact ih
theorem firstI_app (s : ByteArray) (x : Col) (r : List Col) (hx : isT x.1 s = true) : ∀ (p : List Col) (n : Nat), (p.any (fun y => isT y.1 s) = true → firstI s n (p ++ x :: r) < (n + p.length : Nat)) ∧ (p.any (fun y => isT y.1 s) = false → firstI s n (p ++ x :: r) = (n + p.length : Nat))
  | [], n => ⟨fun h => by simp at h, fun _ => by simp [firstI, hx]⟩
  | y :: p, n => by
    have ih := firstI_app s x r hx p (n + 1)
    rw [List.cons_append, firstI, List.any_cons, List.length_cons]
    cases c : isT y.1 s
    · rw [Bool.false_or]
      exact ⟨fun h => by have := ih.1 h; simp only [cond_false]; omega, fun h => by have := ih.2 h; simp only [cond_false]; omega⟩
    · exact ⟨fun _ => by simp only [cond_true]; omega, fun h => by simp at h⟩
theorem isT_self (a : ByteArray) : isT a a = true := isT_iff.2 rfl
theorem take_succ' {β : Type} {l : List β} {i : Nat} (hi : i < l.length) : l.take (i + 1) = l.take i ++ [l[i]] := by
  rw [List.take_add_one, List.getElem?_eq_getElem hi]; rfl
/-- an inner loop over those that stand ahead -/
theorem loopAhead {A R β : Type} (s : (A → Option R) → A → Option R) (l : List β) (n : Nat) (hn : n ≤ l.length) (mk : Int → A) (p : β → Bool) (v R0 : R) (hl : l.length ≤ 4611686018427387904)
    (base : ∀ L, Tells (s L (mk (n : Int))) (· = R0))
    (step : ∀ L i (hi : i < n) e, Tells (L (mk ((i + 1 : Nat) : Int))) (· = e) → Tells (s L (mk (i : Int))) (· = bif p l[i] then v else e)) :
    Tells (iter s rnds (mk (0 : Int))) (· = bif (l.take n).any p then v else R0) := by
  have hlen : (l.take n).length = n := by rw [List.length_take]; omega
  refine loopStop s (l.take n) mk p v R0 (by omega) (fun L => by rw [hlen]; exact base L) fun L i hi e ih => ?_
  have hi' : i < n := by omega
  have := step L i hi' e ih
  rwa [show (l.take n)[i] = l[i] by simp]
theorem spec_l9Once.sp {d : Nat} (hd : 2 ≤ d) {x : Df} (h : dfFit 140737488351232 x) : spec_l9Once.f d (x.1, x.2.1, x.2.2.1, x.2.2.2) = some (onceM x) := by
  obtain ⟨d, rfl, _⟩ := dep hd
  rw [spec_l9Once.t_eq]
  dsimp only [spec_l9Once.m]
  have h1 := h.2.1.1
  have h4 := h.2.2.2.1
  have two : Tells (iter (spec_l9Once.S2 d) rnds ((0 : Int), x.1, x.2.1, x.2.2.1, x.2.2.2)) (· = onceR [] (x.2.2.2.map (·.1))) := by
    refine loopL (spec_l9Once.S2 d) x.2.2.2 (fun i => (i, x.1, x.2.1, x.2.2.1, x.2.2.2)) (fun i (r : List Ix) => onceR ((x.2.2.2.take i).map (·.1)) (r.map (·.1))) (by omega) (fun L => ?_) fun L i hi ih => ?_
    · dsimp only [spec_l9Once.S2, spec_l9Once.s2]
      exact tn (by omega) (tl rfl)
    · dsimp only [spec_l9Once.S2, spec_l9Once.s2]
      refine tp (by omega) ?_
      have := loopAhead (spec_l9Once.S4 d L) x.2.2.2 i (by omega) (fun j => ((i : Int), j, x.1, x.2.1, x.2.2.1, x.2.2.2)) (fun y => isT y.1 x.2.2.2[i].1) false (onceR ((x.2.2.2.take (i + 1)).map fun c => c.1) ((x.2.2.2.drop (i + 1)).map fun c => c.1)) (by omega) (fun L4 => ?_) fun L4 j hj e ih2 => ?_
      · refine this.mono fun r hr => ?_
        rw [hr, List.map_cons, onceR, List.any_map, take_succ' hi, List.map_append]
        show (bif (x.2.2.2.take i).any (fun y => isT y.1 x.2.2.2[i].1) then false else _) = (!((x.2.2.2.take i).any ((fun y => isT y x.2.2.2[i].1) ∘ (·.1))) && _)
        rw [show ((fun y => isT y x.2.2.2[i].1) ∘ (·.1) : Ix → Bool) = fun y => isT y.1 x.2.2.2[i].1 from rfl]
        cases (x.2.2.2.take i).any fun y => isT y.1 x.2.2.2[i].1
        · exact (rfl : onceR ((x.2.2.2.take i).map (·.1) ++ [x.2.2.2[i].1]) _ = _)
        · rfl
      · dsimp only [spec_l9Once.S4, spec_l9Once.s4]
        refine tn (by omega) ?_
        rw [wrap_succ (by omega)]
        exact ih
      · dsimp only [spec_l9Once.S4, spec_l9Once.s4]
        refine tp (by omega) (ti (by omega) (ti hi ?_))
        rw [getD_in hi, getD_in (show j < x.2.2.2.length by omega), wrap_succ (by omega)]
        exact tbif (fun c => tl (by rw [show isT _ _ = true from c]; rfl)) fun c => by rw [show isT _ _ = false from c]; exact ih2
  suffices g : Tells (iter (spec_l9Once.S0 d) rnds ((0 : Int), x.1, x.2.1, x.2.2.1, x.2.2.2)) (· = (onceR [] (x.2.1.map fun c => c.1) && onceR [] (x.2.2.2.map fun c => c.1))) from g.eq
  refine (loopL (spec_l9Once.S0 d) x.2.1 (fun i => (i, x.1, x.2.1, x.2.2.1, x.2.2.2)) (fun i (r : List Col) => onceR ((x.2.1.take i).map fun c => c.1) (r.map fun c => c.1) && onceR [] (x.2.2.2.map fun c => c.1)) (by omega) (fun L => ?_) fun L i hi ih => ?_)
  · dsimp only [spec_l9Once.S0, spec_l9Once.s0]
    exact tn (by omega) (two.mono fun r hr => by rw [hr]; rfl)
  · dsimp only [spec_l9Once.S0, spec_l9Once.s0]
    refine tp (by omega) (ti hi ?_)
    rw [getD_in hi, wrap_succ (by omega)]
    refine tc (spec_l9Col.sp (by omega) h1 _) ?_
    have tk : (x.2.1.take i).length = i := by rw [List.length_take]; omega
    have f := firstI_app x.2.1[i].1 x.2.1[i] (x.2.1.drop (i + 1)) (isT_self _) (x.2.1.take i) 0
    rw [← drop_at hi, List.take_append_drop, tk, Nat.zero_add] at f
    rw [List.map_cons, onceR, List.any_map]
    rw [take_succ' hi, List.map_append] at ih
    rw [show ((fun y => isT y x.2.1[i].1) ∘ (·.1) : Col → Bool) = fun y => isT y.1 x.2.1[i].1 from rfl]
    cases c : (x.2.1.take i).any fun y => isT y.1 x.2.1[i].1
    · exact tf (by rw [f.2 c]; simp) ih
    · exact tt (by have := f.1 c; simp; omega) (tl rfl)
theorem impl_twice.sp {d : Nat} (hd : 1 ≤ d) {x : Df} (h : dfFit 140737488351232 x) : impl_twice.f d (x.1, x.2.1, x.2.2.1, x.2.2.2) = some (!(onceM x)) := by
  obtain ⟨d, rfl, _⟩ := dep hd
  rw [impl_twice.t_eq]
  dsimp only [impl_twice.m]
  have h1 := h.2.1.1
  have h4 := h.2.2.2.1
  have two : Tells (iter (impl_twice.S4 d) rnds (x.2.2.2, (x.2.2.2.length : Int), (0 : Int), x.1, x.2.1, x.2.2.1, x.2.2.2)) (· = !(onceR [] (x.2.2.2.map (·.1)))) := by
    refine loopL (impl_twice.S4 d) x.2.2.2 (fun i => (x.2.2.2, (x.2.2.2.length : Int), i, x.1, x.2.1, x.2.2.1, x.2.2.2)) (fun i (r : List Ix) => !(onceR ((x.2.2.2.take i).map (·.1)) (r.map (·.1)))) (by omega) (fun L => ?_) fun L i hi ih => ?_
    · dsimp only [impl_twice.S4, impl_twice.s4]
      exact tn (by omega) (tl rfl)
    · dsimp only [impl_twice.S4, impl_twice.s4]
      have tk : (x.2.2.2.take i).length = i := by rw [List.length_take]; omega
      refine tp (by omega) (ti hi (tt (by simp; omega) ?_))
      rw [getD_in hi, Int.toNat_natCast, Int.toNat_zero, List.drop_zero]
      have := loopStop (impl_twice.S6 d L) (x.2.2.2.take i) (fun j => (x.2.2.2, (x.2.2.2.length : Int), (i : Int), x.2.2.2.take i, ((x.2.2.2.take i).length : Int), j, x.1, x.2.1, x.2.2.1, x.2.2.2, x.2.2.2[i].1, x.2.2.2[i].2.1, x.2.2.2[i].2.2)) (fun y => isT y.1 x.2.2.2[i].1) true (!(onceR ((x.2.2.2.take (i + 1)).map fun c => c.1) ((x.2.2.2.drop (i + 1)).map fun c => c.1))) (by omega) (fun L6 => ?_) fun L6 j hj e ih2 => ?_
      · refine this.mono fun r hr => ?_
        rw [hr, List.map_cons, onceR, List.any_map, take_succ' hi, List.map_append]
        rw [show ((fun y => isT y x.2.2.2[i].1) ∘ (·.1) : Ix → Bool) = fun y => isT y.1 x.2.2.2[i].1 from rfl]
        cases (x.2.2.2.take i).any fun y => isT y.1 x.2.2.2[i].1
        · exact (rfl : (!onceR ((x.2.2.2.take i).map (·.1) ++ [x.2.2.2[i].1]) _) = _)
        · rfl
      · dsimp only [impl_twice.S6, impl_twice.s6]
        refine tn (by omega) ?_
        rw [wrap_succ (by omega)]
        exact ih
      · dsimp only [impl_twice.S6, impl_twice.s6]
        refine tp (by omega) (ti hj ?_)
        rw [getD_in hj, wrap_succ (by omega)]
        exact tbif (fun c => tl (by rw [show isT _ _ = true from c]; rfl)) fun c => by rw [show isT _ _ = false from c]; exact ih2
  suffices g : Tells (iter (impl_twice.S0 d) rnds (x.2.1, (x.2.1.length : Int), (0 : Int), x.1, x.2.1, x.2.2.1, x.2.2.2)) (· = !(onceR [] (x.2.1.map fun c => c.1) && onceR [] (x.2.2.2.map fun c => c.1))) from g.eq
  refine (loopL (impl_twice.S0 d) x.2.1 (fun i => (x.2.1, (x.2.1.length : Int), i, x.1, x.2.1, x.2.2.1, x.2.2.2)) (fun i (r : List Col) => !(onceR ((x.2.1.take i).map fun c => c.1) (r.map fun c => c.1) && onceR [] (x.2.2.2.map fun c => c.1))) (by omega) (fun L => ?_) fun L i hi ih => ?_)
  · dsimp only [impl_twice.S0, impl_twice.s0]
    exact tn (by omega) (two.mono fun r hr => by rw [hr]; rfl)
  · dsimp only [impl_twice.S0, impl_twice.s0]
    have tk : (x.2.1.take i).length = i := by rw [List.length_take]; omega
    refine tp (by omega) (ti hi (tt (by simp; omega) ?_))
    rw [getD_in hi, Int.toNat_natCast, Int.toNat_zero, List.drop_zero]
    have := loopStop (impl_twice.S2 d L) (x.2.1.take i) (fun j => (x.2.1, (x.2.1.length : Int), (i : Int), x.2.1.take i, ((x.2.1.take i).length : Int), j, x.1, x.2.1, x.2.2.1, x.2.2.2, x.2.1[i].1, x.2.1[i].2.1, x.2.1[i].2.2)) (fun y => isT y.1 x.2.1[i].1) true (!(onceR ((x.2.1.take (i + 1)).map fun c => c.1) ((x.2.1.drop (i + 1)).map fun c => c.1) && onceR [] (x.2.2.2.map fun c => c.1))) (by omega) (fun L2 => ?_) fun L2 j hj e ih2 => ?_
    · refine this.mono fun r hr => ?_
      rw [hr, List.map_cons, onceR, List.any_map, take_succ' hi, List.map_append]
      rw [show ((fun y => isT y x.2.1[i].1) ∘ (·.1) : Col → Bool) = fun y => isT y.1 x.2.1[i].1 from rfl]
      cases (x.2.1.take i).any fun y => isT y.1 x.2.1[i].1
      · exact (rfl : (!(onceR ((x.2.1.take i).map (·.1) ++ [x.2.1[i].1]) _ && _)) = _)
      · rfl
    · dsimp only [impl_twice.S2, impl_twice.s2]
      refine tn (by omega) ?_
      rw [wrap_succ (by omega)]
      exact ih
    · dsimp only [impl_twice.S2, impl_twice.s2]
      refine tp (by omega) (ti hj ?_)
      rw [getD_in hj, wrap_succ (by omega)]
      exact tbif (fun c => tl (by rw [show isT _ _ = true from c]; rfl)) fun c => by rw [show isT _ _ = false from c]; exact ih2
theorem words_split : splitL (⟨#[116, 97, 98, 108, 101, 32, 112, 114, 105, 109, 97, 114, 121, 32, 117, 110, 105, 113, 117, 101, 32, 105, 110, 100, 101, 120, 32, 110, 117, 108, 108, 32, 100, 101, 115, 99, 32, 105, 110, 116, 32, 110, 117, 109, 32, 116, 101, 120, 116, 32, 98, 111, 111, 108]⟩ : ByteArray) = wordsL := by kernel_rfl
theorem impl_isFree.sp {d : Nat} (hd : 3 ≤ d) {s : ByteArray} (hs : s.size ≤ 140737488351232) : impl_isFree.f d s = some (freeM s) := by
  obtain ⟨d, rfl, _⟩ := dep hd
  rw [impl_isFree.t_eq]
  dsimp only [impl_isFree.m]
  obtain ⟨d, rfl, _⟩ := dep (show 1 + 1 ≤ d by omega)
  rw [strings_Split.t_eq]
  have e : splitLaw ((⟨#[116, 97, 98, 108, 101, 32, 112, 114, 105, 109, 97, 114, 121, 32, 117, 110, 105, 113, 117, 101, 32, 105, 110, 100, 101, 120, 32, 110, 117, 108, 108, 32, 100, 101, 115, 99, 32, 105, 110, 116, 32, 110, 117, 109, 32, 116, 101, 120, 116, 32, 98, 111, 111, 108]⟩ : ByteArray), (⟨#[32]⟩ : ByteArray)) = some wordsL := by
    unfold splitLaw
    rw [if_pos ⟨rfl, by decide⟩, words_split]
  refine Tells.eq (tc e ?_)
  have := loopStop (impl_isFree.S0 (d + 1)) wordsL (fun i => (s, (wordsL.length : Int), i, wordsL)) (fun w => isT w s) false (nameM s.size 0 (bytesOf s)) (by decide) (fun L => ?_) fun L i hi e ih => ?_
  · refine this.mono fun r hr => ?_
    rw [hr]; unfold freeM; cases (wordsL.any fun w => isT w s) <;> simp
  · dsimp only [impl_isFree.S0, impl_isFree.s0]
    exact tn (by omega) (tc (impl_nameOk.sp (by omega) hs) (tl rfl))
  · dsimp only [impl_isFree.S0, impl_isFree.s0]
    have h10 : wordsL.length = 10 := rfl
    refine tp (by omega) (ti hi ?_)
    rw [getD_in hi, wrap_succ (by omega)]
    exact tbif (fun c => tl (by rw [show isT wordsL[i] s = true from c]; rfl)) fun c => by rw [show isT wordsL[i] s = false from c]; exact ih
theorem impl_namesOk.sp {d : Nat} (hd : 4 ≤ d) {x : Df} (h : dfFit 140737488351232 x) : impl_namesOk.f d (x.1, x.2.1, x.2.2.1, x.2.2.2) = some (namesM x) := by
  obtain ⟨d, rfl, _⟩ := dep hd
  rw [impl_namesOk.t_eq]
  dsimp only [impl_namesOk.m]
  obtain ⟨h0, ⟨h1, h2⟩, h3, h4, h5⟩ := h
  refine Tells.eq (loopAnd (impl_namesOk.S0 d) x.2.1 (fun i => (x.2.1, (x.2.1.length : Int), i, x.1, x.2.1, x.2.2.1, x.2.2.2)) (fun c => freeM c.1) _ (by omega) (fun L => ?_) fun L i hi e ih => ?_)
  · dsimp only [impl_namesOk.S0, impl_namesOk.s0]
    refine tn (by omega) ?_
    refine loopAnd (impl_namesOk.S2 d) x.2.2.2 (fun i => (x.2.2.2, (x.2.2.2.length : Int), i, x.1, x.2.1, x.2.2.1, x.2.2.2)) (fun c => freeM c.1) _ (by omega) (fun L => ?_) fun L i hi e ih => ?_
    · dsimp only [impl_namesOk.S2, impl_namesOk.s2]
      exact tn (by omega) (tc (impl_isFree.sp (by omega) h0) (tl rfl))
    · dsimp only [impl_namesOk.S2, impl_namesOk.s2]
      refine tp (by omega) (ti hi ?_)
      rw [getD_in hi, wrap_succ (by omega)]
      refine tc (impl_isFree.sp (by omega) (h5 _ (List.getElem_mem hi)).1) ?_
      cases freeM x.2.2.2[i].1
      · exact tt rfl (tl rfl)
      · exact tf rfl ih
  · dsimp only [impl_namesOk.S0, impl_namesOk.s0]
    refine tp (by omega) (ti hi ?_)
    rw [getD_in hi, wrap_succ (by omega)]
    refine tc (impl_isFree.sp (by omega) (h2 _ (List.getElem_mem hi))) ?_
    cases freeM x.2.1[i].1
    · exact tt rfl (tl rfl)
    · exact tf rfl ih
def partsA (n : Int) (q : Nat → By → Bool) (e : Bool) : Nat → List By → Bool
  | _, [] => e
  | i, x :: r => inB x.1 0 (n - 1) && (!(q i x) && partsA n q e (i + 1) r)
theorem partsA_no (n : Int) (q : Nat → By → Bool) : ∀ (r : List By) (i : Nat), partsA n q false i r = false
  | [], _ => rfl
  | x :: r, i => by rw [partsA, partsA_no n q r]; simp
theorem partsA_eq {n : Int} {q : Nat → By → Bool} {l : List By} (h0 : ∀ a r, l = a :: r → q 0 a = false) (h1 : ∀ a b r, l = a :: b :: r → q 1 b = decide (a.1 = b.1)) : partsA n q (inB l.length 1 2) 0 l = partsM n l := by
  cases c : inB l.length 1 2 with
  | false => rw [partsA_no, partsM_not (by rw [c]; simp)]
  | true =>
    have := inB_iff.1 c
    match l, h0, h1, this with
    | [], _, _, h => simp at h
    | [a], h0, _, _ => simp [partsA, partsM, h0 a [] rfl]
    | [a, b], h0, h1, _ => simp [partsA, partsM, h0 a [b] rfl, h1 a b [] rfl]
    | _ :: _ :: _ :: r, _, _, h => simp only [List.length_cons] at h; omega
theorem spec_l9Parts.sp {d : Nat} (hd : 2 ≤ d) {x : Df} (hc : x.2.1.length ≤ 140737488351232) {l : List By} (hl : l.length ≤ 140737488351232) : spec_l9Parts.f d (x.1, x.2.1, x.2.2.1, x.2.2.2, l) = some (partsM x.2.1.length l) := by
  obtain ⟨d, rfl, _⟩ := dep hd
  rw [spec_l9Parts.t_eq]
  dsimp only [spec_l9Parts.m]
  have wr : IntKind.wrap IntKind.i64 ((x.2.1.length : Int) - 1) = (x.2.1.length : Int) - 1 := wrap_id (by omega) (by omega)
  have one : ∀ L i (hi : i < l.length) e, Tells (L (l, ((i + 1 : Nat) : Int), x.1, x.2.1, x.2.2.1, x.2.2.2)) (· = e) → Tells (spec_l9Parts.S0 d L (l, (i : Int), x.1, x.2.1, x.2.2.1, x.2.2.2)) (· = (inB l[i].1 0 ((x.2.1.length : Int) - 1) && (!(decide (0 < i) && decide (l[0].1 = l[i].1)) && e))) := by
    intro L i hi e ih
    dsimp only [spec_l9Parts.S0, spec_l9Parts.s0]
    refine tp (by omega) (ti hi ?_)
    rw [getD_in hi, wrap_succ (by omega), wr]
    refine tc (spec_l1In.sp (by omega) _ _ _) ?_
    cases inB l[i].1 0 ((x.2.1.length : Int) - 1)
    · exact tt rfl (tl rfl)
    refine tf rfl ?_
    by_cases c : i = 0
    · subst c
      exact tn (by omega) (ih.mono fun r hr => by rw [hr]; rfl)
    · refine tp (by omega) (tt (by simp; omega) (ti hi ?_))
      have h0 : 0 < l.length := by omega
      have e0 : List.getD l (Int.toNat (0 : Int)) ((0 : Int), false) = l[0] := getD_in h0
      rw [e0]
      refine tbif (fun c2 => tl ?_) fun c2 => ih.mono fun r hr => ?_
      · have c2 := beq_iff_eq.1 c2
        rw [decide_eq_true (show 0 < i by omega), decide_eq_true c2]; rfl
      · have c2 := beq_eq_false_iff_ne.1 c2
        rw [hr, decide_eq_false c2]; simp
  have last : ∀ L, Tells (spec_l9Parts.S0 d L (l, (l.length : Int), x.1, x.2.1, x.2.2.1, x.2.2.2)) (· = inB l.length 1 2) := fun L => by
    dsimp only [spec_l9Parts.S0, spec_l9Parts.s0]
    exact tn (by omega) (tc (spec_l1In.sp (by omega) _ _ _) (tl rfl))
  have g := loopL (spec_l9Parts.S0 d) l (fun i => (l, i, x.1, x.2.1, x.2.2.1, x.2.2.2)) (fun i r => partsA x.2.1.length (fun i y => decide (0 < i) && decide ((l.head?.map (·.1)) = some y.1)) (inB l.length 1 2) i r) (by omega) (fun L => (last L).mono fun r hr => hr) fun L i hi ih => (one L i hi _ ih).mono fun r hr => by
    rw [hr, partsA]
    have : l.head? = some l[0] := by rw [List.head?_eq_getElem?, List.getElem?_eq_getElem (by omega)]
    rw [this]
    simp
  refine Tells.eq (g.mono fun r hr => ?_)
  rw [hr]
  exact partsA_eq (fun a r h => by simp) fun a b r h => by rw [h]; simp
theorem impl_partsOk.sp {d : Nat} (hd : 2 ≤ d) {x : Df} (hc : x.2.1.length ≤ 140737488351232) {l : List By} (hl : l.length ≤ 140737488351232) : impl_partsOk.f d (x.1, x.2.1, x.2.2.1, x.2.2.2, l) = some (partsM x.2.1.length l) := by
  obtain ⟨d, rfl, _⟩ := dep hd
  rw [impl_partsOk.t_eq]
  dsimp only [impl_partsOk.m]
  have wr : IntKind.wrap IntKind.i64 ((x.2.1.length : Int) - 1) = (x.2.1.length : Int) - 1 := wrap_id (by omega) (by omega)
  have g := loopL (impl_partsOk.S0 d) l (fun i => (l, l, (l.length : Int), i, x.1, x.2.1, x.2.2.1, x.2.2.2)) (fun i r => partsA x.2.1.length (fun i y => (l.take i).any fun z => z.1 == y.1) (inB l.length 1 2) i r) (by omega) (fun L => ?_) fun L i hi ih => ?_
  · refine Tells.eq (g.mono fun r hr => ?_)
    rw [hr]
    exact partsA_eq (fun a r h => by simp) fun a b r h => by rw [h]; simp [Bool.beq_eq_decide_eq]
  · dsimp only [impl_partsOk.S0, impl_partsOk.s0]
    exact tn (by omega) (tc (impl_in.sp (by omega) _ _ _) (tl rfl))
  · dsimp only [impl_partsOk.S0, impl_partsOk.s0]
    have tk : (l.take i).length = i := by rw [List.length_take]; omega
    refine tp (by omega) (ti hi ?_)
    rw [getD_in hi, wr, Int.toNat_natCast, Int.toNat_zero, List.drop_zero, partsA]
    refine tc (impl_in.sp (by omega) _ _ _) ?_
    cases inB l[i].1 0 ((x.2.1.length : Int) - 1)
    · exact tt rfl (tl rfl)
    refine tf rfl (tt (by simp; omega) ?_)
    have := loopStop (impl_partsOk.S2 d L) (l.take i) (fun j => (l, l, (l.length : Int), (i : Int), l.take i, ((l.take i).length : Int), j, x.1, x.2.1, x.2.2.1, x.2.2.2, l[i].1, l[i].2)) (fun z => z.1 == l[i].1) false (partsA x.2.1.length (fun i y => (l.take i).any fun z => z.1 == y.1) (inB l.length 1 2) (i + 1) (l.drop (i + 1))) (by omega) (fun L2 => ?_) fun L2 j hj e ih2 => ?_
    · refine this.mono fun r hr => ?_
      rw [hr]
      cases (l.take i).any fun z => z.1 == l[i].1 <;> simp
    · dsimp only [impl_partsOk.S2, impl_partsOk.s2]
      refine tn (by omega) ?_
      rw [wrap_succ (by omega)]
      exact ih
    · dsimp only [impl_partsOk.S2, impl_partsOk.s2]
      refine tp (by omega) (ti hj ?_)
      rw [getD_in hj, wrap_succ (by omega)]
      exact tbif (fun c => tl (by rw [c]; rfl)) fun c => by rw [c]; exact ih2
theorem spec_l9AllParts.sp {d : Nat} (hd : 3 ≤ d) {x : Df} (h : dfFit 140737488351232 x) : spec_l9AllParts.f d (x.1, x.2.1, x.2.2.1, x.2.2.2) = some (allPartsM x) := by
  obtain ⟨d, rfl, _⟩ := dep hd
  rw [spec_l9AllParts.t_eq]
  dsimp only [spec_l9AllParts.m]
  obtain ⟨h0, ⟨h1, h2⟩, h3, h4, h5⟩ := h
  refine Tells.eq (loopAnd (spec_l9AllParts.S0 d) x.2.2.2 (fun i => (i, x.1, x.2.1, x.2.2.1, x.2.2.2)) (fun c => partsM x.2.1.length c.2.2) _ (by omega) (fun L => ?_) fun L i hi e ih => ?_)
  · dsimp only [spec_l9AllParts.S0, spec_l9AllParts.s0]
    exact tn (by omega) (tc (spec_l9Parts.sp (by omega) h1 h3) (tl rfl))
  · dsimp only [spec_l9AllParts.S0, spec_l9AllParts.s0]
    refine tp (by omega) (ti hi ?_)
    rw [getD_in hi, wrap_succ (by omega)]
    refine tc (spec_l9Parts.sp (by omega) h1 (h5 _ (List.getElem_mem hi)).2) ?_
    cases partsM x.2.1.length x.2.2.2[i].2.2
    · exact tt rfl (tl rfl)
    · exact tf rfl ih
theorem spec_CheckDef.sp {d : Nat} (hd : 6 ≤ d) {x : Df} (h : dfFit 140737488351232 x) : spec_CheckDef.f d (x.1, x.2.1, x.2.2.1, x.2.2.2) = some (checkM x) := by
  obtain ⟨d, rfl, _⟩ := dep hd
  rw [spec_CheckDef.t_eq]
  dsimp only [spec_CheckDef.m]
  unfold checkM
  refine Tells.eq (tc (spec_l9Names.sp (by omega) h) ?_)
  cases namesM x
  · exact tt rfl (tl rfl)
  refine tf rfl (tc (spec_l9Types.sp (by omega) h) ?_)
  cases typesM x.2.1
  · exact tt rfl (tl rfl)
  refine tf rfl (tc (spec_l9Once.sp (by omega) h) ?_)
  cases onceM x
  · exact tt rfl (tl rfl)
  refine tf rfl (tif (fun c => tl (by rw [decide_eq_true c]; rfl)) fun c => ?_)
  rw [decide_eq_false c]
  refine tc (spec_l9AllParts.sp (by omega) h) ?_
  cases c2 : allPartsM x
  · exact tt rfl (tl rfl)
  refine tf rfl ?_
  have pin := partsM_in (allParts_of c2).1
  have h3 := h.2.2.1
  refine loopStop (spec_CheckDef.S1 d) x.2.2.1 (fun i => (i, x.1, x.2.1, x.2.2.1, x.2.2.2)) (nullAt x.2.1) (4 : Int) (0 : Int) (by omega) (fun L => ?_) fun L i hi e ih => ?_
  · dsimp only [spec_CheckDef.S1, spec_CheckDef.s1]
    exact tn (by omega) (tl rfl)
  · dsimp only [spec_CheckDef.S1, spec_CheckDef.s1]
    refine tp (by omega) (ti hi ?_)
    rw [getD_in hi, wrap_succ (by omega)]
    have q := pin _ (List.getElem_mem hi)
    refine tt (by rw [decide_eq_true q.1, decide_eq_true q.2]; rfl) (tbif (fun c => tl ?_) fun c => ?_)
    · rw [show nullAt x.2.1 x.2.2.1[i] = true from c]; rfl
    · rw [show nullAt x.2.1 x.2.2.1[i] = false from c]; exact ih
theorem impl_CheckDef.sp {d : Nat} (hd : 5 ≤ d) {x : Df} (h : dfFit 140737488351232 x) : impl_CheckDef.f d (x.1, x.2.1, x.2.2.1, x.2.2.2) = some (checkM x) := by
  obtain ⟨d, rfl, _⟩ := dep hd
  rw [impl_CheckDef.t_eq]
  dsimp only [impl_CheckDef.m]
  have ⟨h0, ⟨h1, h2⟩, h3, h4, h5⟩ := h
  have e4 : partsM x.2.1.length x.2.2.1 = true → Tells (iter (impl_CheckDef.S4 d) rnds (x.2.2.1, (x.2.2.1.length : Int), (0 : Int), x.1, x.2.1, x.2.2.1, x.2.2.2)) (· = bif x.2.2.1.any (nullAt x.2.1) then 4 else 0) := fun c2 => by
    have pin := partsM_in c2
    refine loopStop (impl_CheckDef.S4 d) x.2.2.1 (fun i => (x.2.2.1, (x.2.2.1.length : Int), i, x.1, x.2.1, x.2.2.1, x.2.2.2)) (nullAt x.2.1) (4 : Int) (0 : Int) (by omega) (fun L => ?_) fun L i hi e ih => ?_
    · dsimp only [impl_CheckDef.S4, impl_CheckDef.s4]
      exact tn (by omega) (tl rfl)
    · dsimp only [impl_CheckDef.S4, impl_CheckDef.s4]
      refine tp (by omega) (ti hi ?_)
      rw [getD_in hi, wrap_succ (by omega)]
      have q := pin _ (List.getElem_mem hi)
      refine tt (by rw [decide_eq_true q.1, decide_eq_true q.2]; rfl) (tbif (fun c => tl ?_) fun c => ?_)
      · rw [show nullAt x.2.1 x.2.2.1[i] = true from c]; rfl
      · rw [show nullAt x.2.1 x.2.2.1[i] = false from c]; exact ih
  have e2 : Tells (iter (impl_CheckDef.S2 d) rnds (x.2.2.2, (x.2.2.2.length : Int), (0 : Int), x.1, x.2.1, x.2.2.1, x.2.2.2)) (· = bif allPartsM x then (bif x.2.2.1.any (nullAt x.2.1) then 4 else 0) else 5) := by
    have g := loopStop (impl_CheckDef.S2 d) x.2.2.2 (fun i => (x.2.2.2, (x.2.2.2.length : Int), i, x.1, x.2.1, x.2.2.1, x.2.2.2)) (fun c => !(partsM x.2.1.length c.2.2)) (5 : Int) (bif partsM x.2.1.length x.2.2.1 then (bif x.2.2.1.any (nullAt x.2.1) then 4 else 0) else 5) (by omega) (fun L => ?_) fun L i hi e ih => ?_
    · refine g.mono fun r hr => ?_
      rw [hr]
      unfold allPartsM
      rw [← List.not_all_eq_any_not]
      cases x.2.2.2.all (fun c => partsM x.2.1.length c.2.2) <;> cases partsM x.2.1.length x.2.2.1 <;> rfl
    · dsimp only [impl_CheckDef.S2, impl_CheckDef.s2]
      refine tn (by omega) (tc (impl_partsOk.sp (by omega) h1 h3) ?_)
      cases c : partsM x.2.1.length x.2.2.1
      · exact tt rfl (tl rfl)
      · exact tf rfl (e4 c)
    · dsimp only [impl_CheckDef.S2, impl_CheckDef.s2]
      refine tp (by omega) (ti hi ?_)
      rw [getD_in hi, wrap_succ (by omega)]
      refine tc (impl_partsOk.sp (by omega) h1 (h5 _ (List.getElem_mem hi)).2) ?_
      cases partsM x.2.1.length x.2.2.2[i].2.2
      · exact tt rfl (tl rfl)
      · exact tf rfl ih
  have e0 : Tells (iter (impl_CheckDef.S0 d) rnds (x.2.1, (x.2.1.length : Int), (0 : Int), x.1, x.2.1, x.2.2.1, x.2.2.2)) (· = bif x.2.1.any (fun c => !(inB c.2.1 1 4)) then 2 else bif onceM x then (bif decide ((x.2.2.2.length : Int) > 2) then 6 else bif allPartsM x then (bif x.2.2.1.any (nullAt x.2.1) then 4 else 0) else 5) else 3) := by
    refine loopStop (impl_CheckDef.S0 d) x.2.1 (fun i => (x.2.1, (x.2.1.length : Int), i, x.1, x.2.1, x.2.2.1, x.2.2.2)) (fun c => !(inB c.2.1 1 4)) (2 : Int) _ (by omega) (fun L => ?_) fun L i hi e ih => ?_
    · dsimp only [impl_CheckDef.S0, impl_CheckDef.s0]
      refine tn (by omega) (tc (impl_twice.sp (by omega) h) ?_)
      cases onceM x
      · exact tt rfl (tl rfl)
      · exact tf rfl (tif (fun c => tl (by rw [decide_eq_true c]; rfl)) fun c => by rw [decide_eq_false c]; exact e2)
    · dsimp only [impl_CheckDef.S0, impl_CheckDef.s0]
      refine tp (by omega) (ti hi ?_)
      rw [getD_in hi, wrap_succ (by omega)]
      refine tc (impl_in.sp (by omega) _ _ _) ?_
      cases inB x.2.1[i].2.1 1 4
      · exact tt rfl (tl rfl)
      · exact tf rfl ih
  unfold checkM
  refine Tells.eq (tc (impl_namesOk.sp (by omega) h) ?_)
  cases namesM x
  · exact tt rfl (tl rfl)
  refine tf rfl (tc (impl_in.sp (by omega) _ _ _) ?_)
  unfold typesM
  cases inB x.2.1.length 1 6
  · exact tt rfl (tl (by rw [Bool.and_false]; rfl))
  refine tf rfl (e0.mono fun r hr => ?_)
  rw [hr, ← List.not_all_eq_any_not, Bool.and_true]
  cases x.2.1.all fun c => inB c.2.1 1 4 <;> rfl
theorem tneq {a b : Int} {α : Type} {x y : Option α} {Q : α → Prop} (h1 : a ≠ b → Tells x Q) (h2 : a = b → Tells y Q) : Tells (bif a != b then x else y) Q := by
  by_cases h : a = b
  · subst h; exact tf (by simp) (h2 rfl)
  · exact tt (by simp [h]) (h1 h)
theorem teq {a b : Int} {α : Type} {x y : Option α} {Q : α → Prop} (h1 : a = b → Tells x Q) (h2 : a ≠ b → Tells y Q) : Tells (bif a == b then x else y) Q := by
  by_cases h : a = b
  · subst h; exact tt (by simp) (h1 rfl)
  · exact tf (by simp [h]) (h2 h)
theorem impl_partsOf.sp {d : Nat} (hd : 1 ≤ d) {x : Df} {l : List By} (hl : l.length ≤ 1000000000000) (hin : ∀ p ∈ l, 0 ≤ p.1 ∧ p.1 < x.2.1.length) : impl_partsOf.f d (x.1, x.2.1, x.2.2.1, x.2.2.2, l) = some (l.map (mkPart x.2.1)) := by
  obtain ⟨d, rfl, _⟩ := dep hd
  rw [impl_partsOf.t_eq]
  dsimp only [impl_partsOf.m]
  refine Tells.eq (loopApp (α := Int × Bool) (β := Int × Int × Bool × Bool) (impl_partsOf.S0 d) l (mkPart x.2.1) (fun st i => (l, (l.length : Int), i, x.1, x.2.1, x.2.2.1, x.2.2.2, st)) _ (by omega) (fun L => ?_) fun L st i Q hi h ih => ?_)
  · dsimp only [impl_partsOf.S0, impl_partsOf.s0]
    exact tn (by omega) (tl rfl)
  · dsimp only [impl_partsOf.S0, impl_partsOf.s0]
    have q := hin _ (List.getElem_mem hi)
    refine tp (by omega) (ti hi ?_)
    rw [getD_in hi, wrap_succ (by omega)]
    exact tt (by rw [decide_eq_true q.1, decide_eq_true q.2]; rfl) (tp (by simp only [List.length_cons, List.length_nil]; omega) ih)
theorem impl_PrimaryPlan.sp {d : Nat} (hd : 6 ≤ d) {x : Df} (h : dfFit 140737488351232 x) : impl_PrimaryPlan.f d (x.1, x.2.1, x.2.2.1, x.2.2.2) = some (planP x) := by
  obtain ⟨d, rfl, _⟩ := dep hd
  rw [impl_PrimaryPlan.t_eq]
  dsimp only [impl_PrimaryPlan.m]
  unfold planP
  refine Tells.eq (tc (impl_CheckDef.sp (by omega) h) (tneq (fun c => tl (by rw [decide_eq_false c]; rfl)) fun c => ?_))
  rw [decide_eq_true c]
  have g := (checkM_iff.1 c).parts
  exact tc (impl_partsOf.sp (by omega) (by have := partsM_len g.1; omega) (partsM_in g.1)) (tl rfl)
theorem impl_IndexPlan.sp {d : Nat} (hd : 6 ≤ d) {x : Df} (h : dfFit 140737488351232 x) (i : Int) : impl_IndexPlan.f d (x.1, x.2.1, x.2.2.1, x.2.2.2, i) = some (planI x i) := by
  obtain ⟨d, rfl, _⟩ := dep hd
  rw [impl_IndexPlan.t_eq]
  dsimp only [impl_IndexPlan.m]
  unfold planI
  have h4 := h.2.2.2.1
  refine Tells.eq (tc (impl_CheckDef.sp (by omega) h) (tneq (fun c => tl (by rw [decide_eq_false c]; rfl)) fun c => ?_))
  rw [decide_eq_true c, wrap_id (by omega) (by omega)]
  have g := (checkM_iff.1 c).parts
  refine tc (impl_in.sp (by omega) _ _ _) ?_
  cases e : inB i 0 ((x.2.2.2.length : Int) - 1) with
  | false => exact tt rfl (tl rfl)
  | true =>
    have b := inB_iff.1 e
    refine tf rfl (tt (by rw [decide_eq_true b.1, decide_eq_true (show i < (x.2.2.2.length : Int) by omega)]; rfl) ?_)
    have m : ixAt x.2.2.2 i ∈ x.2.2.2 := at_mem b.1 (by omega)
    have gi := g.2 _ m
    refine tc (impl_partsOf.sp (l := (ixAt x.2.2.2 i).2.2) (by omega) (by have := partsM_len gi; omega) (partsM_in gi)) (tc (impl_partsOf.sp (by omega) (by have := partsM_len g.1; omega) (partsM_in g.1)) (tp ?_ (tl rfl)))
    have := partsM_len gi
    have := partsM_len g.1
    rw [List.length_map, List.length_map]; omega
theorem rowR_snoc : ∀ (r : List Col) (i : Nat) (c : Col), rowR i (r ++ [c]) = rowR i r ++ [(((i + r.length : Nat) : Int), c.2.1, c.2.2, false)]
  | [], i, c => rfl
  | x :: r, i, c => by rw [List.cons_append, rowR, rowR_snoc r (i + 1) c, rowR, List.cons_append, List.length_cons]; congr 5; omega
theorem impl_RowPlan.sp {d : Nat} (hd : 6 ≤ d) {x : Df} (h : dfFit 140737488351232 x) : impl_RowPlan.f d (x.1, x.2.1, x.2.2.1, x.2.2.2) = some (planR x) := by
  obtain ⟨d, rfl, _⟩ := dep hd
  rw [impl_RowPlan.t_eq]
  dsimp only [impl_RowPlan.m]
  unfold planR
  refine Tells.eq (tc (impl_CheckDef.sp (by omega) h) (tneq (fun c => tl (by rw [decide_eq_false c]; rfl)) fun c => ?_))
  rw [decide_eq_true c]
  have c6 := (checkM_iff.1 c).types.2.2
  refine loop0 (σ := List (Int × Int × Bool × Bool)) (impl_RowPlan.S0 d) x.2.1.length (fun st i => (x.2.1, (x.2.1.length : Int), i, st)) (fun st i => st = rowR 0 (x.2.1.take i)) (fun _ _ r => r = rowR 0 x.2.1) [] (by omega) rfl ?_ ?_
  · rintro L st rfl
    dsimp only [impl_RowPlan.S0, impl_RowPlan.s0]
    exact tn (by omega) (tl (by rw [List.take_length]))
  · rintro L st i rfl hi ih
    dsimp only [impl_RowPlan.S0, impl_RowPlan.s0]
    refine tp (by omega) (ti hi ?_)
    rw [getD_in hi, wrap_succ (by omega)]
    refine tp (by rw [rowR_len]; simp only [List.length_cons, List.length_nil, List.length_take]; omega) (ih _ ?_)
    rw [take_succ' hi, rowR_snoc, List.length_take, Nat.zero_add, show min i x.2.1.length = i by omega]
theorem planP_len (x : Df) : (planP x).length ≤ 10 := by
  unfold planP
  by_cases c : checkM x = 0
  · rw [decide_eq_true c, cond_true, List.length_map]
    have := partsM_len (checkM_iff.1 c).parts.1; omega
  · rw [decide_eq_false c]; exact Nat.zero_le _
theorem planI_len (x : Df) (i : Int) : (planI x i).length ≤ 10 := by
  unfold planI
  by_cases c : checkM x = 0
  · rw [decide_eq_true c, cond_true]
    cases e : inB i 0 ((x.2.2.2.length : Int) - 1) with
    | false => exact Nat.zero_le _
    | true =>
      have b := inB_iff.1 e
      have g := (checkM_iff.1 c).parts
      have m : ixAt x.2.2.2 i ∈ x.2.2.2 := at_mem b.1 (by omega)
      have := partsM_len g.1
      have := partsM_len (g.2 _ m)
      rw [cond_true, List.length_append, List.length_map, List.length_map]
      omega
  · rw [decide_eq_false c]; exact Nat.zero_le _
theorem planR_len (x : Df) : (planR x).length ≤ 10 := by
  unfold planR
  by_cases c : checkM x = 0
  · rw [decide_eq_true c, cond_true, rowR_len]
    have := (checkM_iff.1 c).types.2.2; omega
  · rw [decide_eq_false c]; exact Nat.zero_le _
/-- A table whose rows and texts are small. -/
def tabD (n : Nat) (x : Df) : Prop := x.1.size ≤ 100 ∧ (x.2.1.length ≤ n ∧ ∀ c ∈ x.2.1, c.1.size ≤ 100) ∧ x.2.2.1.length ≤ n ∧ (x.2.2.2.length ≤ n ∧ ∀ y ∈ x.2.2.2, y.1.size ≤ 100 ∧ y.2.2.length ≤ n)
theorem tabD.fit {n : Nat} (hn : n ≤ 1000) {x : Df} (h : tabD n x) : dfFit 1048576 x := by
  obtain ⟨h0, ⟨h1, h2⟩, h3, h4, h5⟩ := h
  exact ⟨by omega, ⟨by omega, fun c hc => by have := h2 c hc; omega⟩, by omega, by omega, fun y hy => by have := h5 y hy; omega⟩
theorem tabD.big {n : Nat} (hn : n ≤ 1000) {x : Df} (h : tabD n x) : dfFit 140737488351232 x := (h.fit hn).mono (by decide)
theorem mem_snoc {β : Type} {l : List β} {y : β} {Q : β → Prop} (h : ∀ x ∈ l, Q x) (hy : Q y) : ∀ x ∈ l ++ [y], Q x := by
  intro x hx
  rcases List.mem_append.1 hx with hx | hx
  · exact h x hx
  · rw [List.mem_singleton] at hx; rw [hx]; exact hy
theorem set_all {β : Type} {l : List β} {i : Nat} {y : β} {Q : β → Prop} (h : ∀ x ∈ l, Q x) (hy : Q y) : ∀ x ∈ l.set i y, Q x := by
  intro x hx
  rcases List.mem_or_eq_of_mem_set hx with hx | hx
  · exact h x hx
  · rw [hx]; exact hy
theorem spec_l1Str.sp {d : Nat} (hd : 3 ≤ d) {b : List Int} {p x : Int} {l : List ByteArray} (hc : cur b p) (h0 : 0 < l.length) : Tells (spec_l1Str.f d (b, p, x, l)) fun r => r.1 ∈ l ∧ cur b r.2.1 := by
  obtain ⟨d, rfl, _⟩ := dep hd
  rw [spec_l1Str.t_eq]
  dsimp only [spec_l1Str.m]
  refine tb (spec_l1Below.sp (by omega) hc) fun r hr => ?_
  have hlt := hr.2.1 (by omega)
  refine tt (by rw [decide_eq_true hr.1, decide_eq_true hlt]; rfl) (tl ⟨at_mem hr.1 hlt, hr.2.2⟩)
theorem spec_l9Draw2.sp {d : Nat} (hd : 4 ≤ d) {b : List Int} {p x n : Int} (hc : cur b p) (h1 : 1 ≤ n) (h2 : n ≤ 1000) : Tells (spec_l9Draw2.f d (b, p, x, n)) fun r => partsM n r.1 = true ∧ cur b r.2.1 := by
  obtain ⟨d, rfl, _⟩ := dep hd
  rw [spec_l9Draw2.t_eq]
  dsimp only [spec_l9Draw2.m]
  refine tb (spec_l1Below.sp (by omega) hc) fun r1 h1 => tb (spec_l1Once.sp (by omega) h1.2.2) fun r2 h2 => ?_
  have a0 := h1.1
  have a1 := h1.2.1 (by omega)
  have one : ∀ c, partsM n [(r1.1, c)] = true := fun c => inB_iff.2 ⟨a0, by omega⟩
  refine tif (fun c => tb (spec_l1Once.sp (by omega) h2) fun r3 h3 => tbif (fun _ => tp (by omega) (tb (spec_l1Once.sp (by omega) h3) fun r4 h4 => tp (by simp) (tl ⟨?_, h4⟩))) fun _ => tl ⟨one _, h3⟩) fun _ => tl ⟨one _, h2⟩
  show partsM n [(r1.1, r2.1), (Int.tmod (IntKind.wrap IntKind.i64 (r1.1 + 1)) n, r4.1)] = true
  rw [wrap_id (by omega) (by omega), Int.tmod_eq_emod_of_nonneg (by omega)]
  have m0 := Int.emod_nonneg (r1.1 + 1) (show n ≠ 0 by omega)
  have m1 := Int.emod_lt_of_pos (r1.1 + 1) (show 0 < n by omega)
  have ne : r1.1 ≠ (r1.1 + 1) % n := by
    by_cases e : r1.1 + 1 = n
    · rw [e, Int.emod_self]; omega
    · rw [Int.emod_eq_of_lt (by omega) (by omega)]; omega
  simp only [partsM, Bool.and_eq_true]
  exact ⟨inB_iff.2 ⟨a0, by omega⟩, inB_iff.2 ⟨m0, by omega⟩, by rw [decide_eq_false ne]; rfl⟩
def nmL : List ByteArray := [(⟨#[97]⟩ : ByteArray), (⟨#[98]⟩ : ByteArray), (⟨#[99]⟩ : ByteArray)]
def nmC : List ByteArray := [(⟨#[105, 100]⟩ : ByteArray), (⟨#[97]⟩ : ByteArray), (⟨#[98]⟩ : ByteArray), (⟨#[99]⟩ : ByteArray)]
def uvL : List ByteArray := [(⟨#[117]⟩ : ByteArray), (⟨#[118]⟩ : ByteArray)]
/-- the columns of a drawn table -/
def colsD (k : Nat) (cs : List Col) : Prop := cs.map (·.1) = nmC.take k ∧ (∀ c ∈ cs, inB c.2.1 1 4 = true) ∧ (colAt cs 0).2.2 = false
def primD (cs : List Col) (ps : List By) : Prop := ps.any (nullAt cs) = false ∧ partsM cs.length ps = true
def idxD (cs : List Col) (xs : List Ix) : Prop := (xs.map (·.1) = [] ∨ (∃ u ∈ uvL, xs.map (·.1) = [u ++ (⟨#[98]⟩ : ByteArray)]) ∨ ∃ u ∈ uvL, ∃ v ∈ uvL, xs.map (·.1) = [u ++ (⟨#[99]⟩ : ByteArray), v ++ (⟨#[98]⟩ : ByteArray)]) ∧ ∀ x ∈ xs, partsM cs.length x.2.2 = true
def drawn (name : ByteArray) (x : Df) : Prop := x.1 = name ∧ (∃ k, 2 ≤ k ∧ k ≤ 4 ∧ colsD k x.2.1) ∧ primD x.2.1 x.2.2.1 ∧ idxD x.2.1 x.2.2.2
theorem colsD_len {k : Nat} {cs : List Col} (h : colsD k cs) (hk : k ≤ 4) : cs.length = k := by
  have := congrArg List.length h.1
  rw [List.length_map, List.length_take] at this
  have e : nmC.length = 4 := rfl
  omega
theorem spec_l9Draw.two {d : Nat} (hd : 4 ≤ d) {b : List Int} {ci h : Int} (hc : cur b ci) (e : ByteArray) (z1 : List Col) (z2 : List By) (z3 : List Ix) {name : ByteArray} {cs : List Col} {k : Nat} (h2 : 2 ≤ k) (h4 : k ≤ 4) (hcs : colsD k cs) {ps : List By} (hp : primD cs ps) {n : Int} (n0 : 0 ≤ n) (n2 : n ≤ 2) :
    Tells (iter (spec_l9Draw.S2 d) rnds (n, b, ci, h, e, z1, z2, z3, name, cs, ps, ([] : List Ix), nmL)) fun r => drawn name (r.1, r.2.1, r.2.2.1, r.2.2.2.1) ∧ cur b r.2.2.2.2.1 := by
  have cl := colsD_len hcs h4
  have stop : ∀ L ci h xs, cur b ci → idxD cs xs → Tells (spec_l9Draw.S2 d L ((0 : Int), b, ci, h, e, z1, z2, z3, name, cs, ps, xs, nmL)) fun r => drawn name (r.1, r.2.1, r.2.2.1, r.2.2.2.1) ∧ cur b r.2.2.2.2.1 := fun L ci h xs hc hx => by
    dsimp only [spec_l9Draw.S2, spec_l9Draw.s2]
    exact tn (by omega) (tl ⟨⟨rfl, ⟨k, h2, h4, hcs⟩, hp, hx⟩, hc⟩)
  have go : ∀ (i : Int) (w : ByteArray) L ci h xs Q, (0 < i ∧ i < 3) → List.getD nmL (Int.toNat i) ByteArray.empty = w → w.size = 1 → xs.length ≤ 2 → cur b ci → (∀ u t ys ci' h', u ∈ uvL → partsM cs.length ys = true → cur b ci' → Tells (L (i - 1, b, ci', h', e, z1, z2, z3, name, cs, ps, xs ++ [(u ++ w, t, ys)], nmL)) Q) → Tells (spec_l9Draw.S2 d L (i, b, ci, h, e, z1, z2, z3, name, cs, ps, xs, nmL)) Q := fun i w L ci h xs Q hi hw w1 hx hc ih => by
    dsimp only [spec_l9Draw.S2, spec_l9Draw.s2]
    refine tp (by omega) (tb (spec_l1Str.sp (l := uvL) (by omega) hc (by decide)) fun r hr => tt ?_ ?_)
    · have l3 : (nmL.length : Int) = 3 := rfl
      rw [decide_eq_true (show (0 : Int) ≤ i by omega), decide_eq_true (show i < (nmL.length : Int) by omega)]; rfl
    rw [hw]
    have us : r.1.size = 1 := by
      have := hr.1
      simp only [uvL, List.mem_cons, List.not_mem_nil, or_false] at this
      rcases this with e | e <;> rw [e] <;> rfl
    refine tp ?_ (tb (spec_l1Once.sp (by omega) hr.2) fun r2 g2 => tb (spec_l9Draw2.sp (by omega) g2 (by omega) (by omega)) fun r3 g3 => tp ?_ ?_)
    · rw [us, w1]; decide
    · simp only [List.length_cons, List.length_nil]; omega
    · rw [wrap_id (by omega) (by omega)]
      exact ih _ _ _ _ _ hr.1 g3.1 g3.2
  obtain ⟨R, hR⟩ : ∃ R, rnds = R + 1 + 1 + 1 := ⟨rnds - 3, by have := rnds_gt (n := 5) (by decide); omega⟩
  rw [hR]
  have : n = 0 ∨ n = 1 ∨ n = 2 := by omega
  rcases this with rfl | rfl | rfl
  · simp only [iter]
    exact stop _ _ _ _ hc ⟨.inl rfl, fun x hx => by cases hx⟩
  · simp only [iter]
    refine go 1 (⟨#[98]⟩ : ByteArray) _ _ _ _ _ (by omega) rfl rfl (by simp) hc fun u t ys ci' h' hu hy hc' => ?_
    exact stop _ _ _ _ hc' ⟨.inr (.inl ⟨u, hu, rfl⟩), by simpa using hy⟩
  · simp only [iter]
    refine go 2 (⟨#[99]⟩ : ByteArray) _ _ _ _ _ (by omega) rfl rfl (by simp) hc fun u t ys ci' h' hu hy hc' => ?_
    refine go 1 (⟨#[98]⟩ : ByteArray) _ _ _ _ _ (by omega) rfl rfl (by simp) hc' fun v t2 ys2 ci2 h2 hv hy2 hc2 => ?_
    exact stop _ _ _ _ hc2 ⟨.inr (.inr ⟨u, hu, v, hv, rfl⟩), by simpa using ⟨hy, hy2⟩⟩
theorem colAt_snoc0 {cs : List Col} {c : Col} (h : 0 < cs.length) : colAt (cs ++ [c]) 0 = colAt cs 0 := by
  unfold colAt
  cases cs with
  | nil => simp at h
  | cons x r => rfl
theorem spec_l9Draw.sp {d : Nat} (hd : 5 ≤ d) {b : List Int} {ci h : Int} (hc : cur b ci) (name : ByteArray) : Tells (spec_l9Draw.f d (b, ci, h, name)) fun r => drawn name (r.1, r.2.1, r.2.2.1, r.2.2.2.1) ∧ cur b r.2.2.2.2.1 := by
  obtain ⟨d, rfl, _⟩ := dep hd
  rw [spec_l9Draw.t_eq]
  dsimp only [spec_l9Draw.m]
  refine tb (spec_l1Int.sp (by omega) hc (by simp)) fun r hr => ?_
  have key : ∀ (R i : Nat) (ci h : Int) (cs : List Col), i ≤ 3 → 3 - i < R → cur b ci → colsD (i + 1) cs → Tells (iter (spec_l9Draw.S0 d) R ((i : Int), b, ci, h, ByteArray.empty, ([] : List Col), ([] : List By), ([] : List Ix), name, cs, ([] : List By), ([] : List Ix), nmL)) fun r => drawn name (r.1, r.2.1, r.2.2.1, r.2.2.2.1) ∧ cur b r.2.2.2.2.1 := by
    intro R
    induction R with
    | zero => intro i ci h cs h1 h2; omega
    | succ R ih =>
      intro i ci h cs hi hR hc hcs
      have cl := colsD_len hcs (by omega)
      have l3 : nmL.length = 3 := rfl
      simp only [iter]
      dsimp only [spec_l9Draw.S0, spec_l9Draw.s0]
      refine tb (spec_l1Below.sp (by omega) hc) fun r2 g2 => ?_
      have a0 := g2.1
      have a1 := g2.2.1 (by omega)
      rw [wrap_id (x := 1 + r2.1) (by omega) (by omega)]
      refine tif (fun c => tp (by omega) (ti (by omega) ?_)) fun c => ?_
      · refine tb (spec_l1Below.sp (by omega) g2.2.2) fun r3 g3 => tb (spec_l1Once.sp (by omega) g3.2.2) fun r4 g4 => ?_
        have b0 := g3.1
        have b1 := g3.2.1 (by omega)
        rw [getD_in (show i < nmL.length by omega), wrap_succ (by omega), wrap_id (x := 1 + r3.1) (by omega) (by omega)]
        refine tp (by simp only [List.length_cons, List.length_nil]; omega) (ih (i + 1) _ _ _ (by omega) (by omega) g4 ⟨?_, mem_snoc hcs.2.1 (inB_iff.2 ⟨by simp only; omega, by simp only; omega⟩), ?_⟩)
        · rw [List.map_append, hcs.1]
          have : i = 0 ∨ i = 1 ∨ i = 2 := by omega
          rcases this with e | e | e <;> subst e <;> rfl
        · rw [colAt_snoc0 (by omega)]; exact hcs.2.2
      · refine tb (spec_l1Once.sp (by omega) g2.2.2) fun r5 g5 => tt ?_ ?_
        · rw [decide_eq_true (show (1 : Int) < (cs.length : Int) by omega)]; rfl
        have c0 : (colAt cs 0).2.2 = false := hcs.2.2
        have p0 : ∀ q, primD cs [((0 : Int), q)] := fun q => ⟨by simp [nullAt, c0], inB_iff.2 ⟨by simp only; omega, by simp only; omega⟩⟩
        refine tbif (fun e => tb (spec_l1Once.sp (by omega) g5) fun r6 g6 => tbif (fun _ => tb (spec_l1Once.sp (by omega) g6) fun r7 g7 => tp (by simp) (tb (spec_l1Below.sp (by omega) g7) fun r8 g8 => ?_)) fun _ => tb (spec_l1Below.sp (by omega) g6) fun r8 g8 => ?_) fun e => tb (spec_l1Below.sp (by omega) g5) fun r8 g8 => ?_
        · have c1 : (colAt cs 1).2.2 = false := by
            have e : (!(colAt cs 1).2.2) = true := e
            simpa using e
          refine spec_l9Draw.two (k := i + 1) (by omega) g8.2.2 _ _ _ _ (by omega) (by omega) hcs ⟨?_, ?_⟩ g8.1 (by have := g8.2.1 (by omega); omega)
          · simp [nullAt, c0, c1]
          · simp only [List.cons_append, List.nil_append, partsM, Bool.and_eq_true]
            exact ⟨inB_iff.2 ⟨by omega, by omega⟩, inB_iff.2 ⟨by omega, by omega⟩, by simp⟩
        · exact spec_l9Draw.two (k := i + 1) (by omega) g8.2.2 _ _ _ _ (by omega) (by omega) hcs (p0 _) g8.1 (by have := g8.2.1 (by omega); omega)
        · exact spec_l9Draw.two (k := i + 1) (by omega) g8.2.2 _ _ _ _ (by omega) (by omega) hcs (p0 _) g8.1 (by have := g8.2.1 (by omega); omega)
  refine key rnds 0 _ _ _ (by omega) (rnds_gt (by decide)) hr.2 ⟨rfl, ?_, rfl⟩
  intro c hc
  rw [List.mem_singleton] at hc
  rw [hc]
  have := hr.1
  simp only [List.mem_cons, List.not_mem_nil, or_false] at this
  exact inB_iff.2 ⟨by simp only; omega, by simp only; omega⟩
theorem idx_names {cs : List Col} {xs : List Ix} (h : idxD cs xs) : (∀ x ∈ xs, freeM x.1 = true) ∧ onceR [] (xs.map (·.1)) = true ∧ xs.length ≤ 2 ∧ ∀ x ∈ xs, x.1.size ≤ 100 := by
  have f1 : ∀ u ∈ uvL, freeM (u ++ (⟨#[98]⟩ : ByteArray)) = true ∧ (u ++ (⟨#[98]⟩ : ByteArray)).size ≤ 100 := by decide +kernel
  have f2 : ∀ u ∈ uvL, freeM (u ++ (⟨#[99]⟩ : ByteArray)) = true ∧ (u ++ (⟨#[99]⟩ : ByteArray)).size ≤ 100 := by decide +kernel
  have o1 : ∀ u ∈ uvL, onceR [] [u ++ (⟨#[98]⟩ : ByteArray)] = true := by decide +kernel
  have o2 : ∀ u ∈ uvL, ∀ v ∈ uvL, onceR [] [u ++ (⟨#[99]⟩ : ByteArray), v ++ (⟨#[98]⟩ : ByteArray)] = true := by decide +kernel
  have mm : ∀ {P : ByteArray → Prop} {l : List ByteArray}, xs.map (·.1) = l → (∀ s ∈ l, P s) → ∀ x ∈ xs, P x.1 := fun e hp x hx => hp _ (e ▸ List.mem_map_of_mem (f := fun y : Ix => y.1) hx)
  have ll : ∀ {l : List ByteArray}, xs.map (·.1) = l → xs.length = l.length := fun e => by rw [← e, List.length_map]
  rcases h.1 with e | ⟨u, hu, e⟩ | ⟨u, hu, v, hv, e⟩
  · have := ll e
    exact ⟨mm (P := fun s => freeM s = true) e (fun s hs => by cases hs), by rw [e]; rfl, by rw [this]; decide, mm (P := fun s => s.size ≤ 100) e (fun s hs => by cases hs)⟩
  · have := ll e
    have one : ∀ {P : ByteArray → Prop}, P (u ++ (⟨#[98]⟩ : ByteArray)) → ∀ s ∈ [u ++ (⟨#[98]⟩ : ByteArray)], P s := fun h s hs => by rw [List.mem_singleton] at hs; rw [hs]; exact h
    exact ⟨mm (P := fun s => freeM s = true) e (one (P := fun s => freeM s = true) (f1 u hu).1), by rw [e]; exact o1 u hu, by rw [this]; simp, mm (P := fun s => s.size ≤ 100) e (one (P := fun s => s.size ≤ 100) (f1 u hu).2)⟩
  · have := ll e
    have two : ∀ {P : ByteArray → Prop}, P (u ++ (⟨#[99]⟩ : ByteArray)) → P (v ++ (⟨#[98]⟩ : ByteArray)) → ∀ s ∈ [u ++ (⟨#[99]⟩ : ByteArray), v ++ (⟨#[98]⟩ : ByteArray)], P s := fun h h2 s hs => by
      rcases List.mem_cons.1 hs with e | hs
      · rw [e]; exact h
      · rw [List.mem_singleton.1 hs]; exact h2
    exact ⟨mm (P := fun s => freeM s = true) e (two (P := fun s => freeM s = true) (f2 u hu).1 (f1 v hv).1), by rw [e]; exact o2 u hu v hv, by rw [this]; simp, mm (P := fun s => s.size ≤ 100) e (two (P := fun s => s.size ≤ 100) (f2 u hu).2 (f1 v hv).2)⟩
theorem drawn.names {name : ByteArray} {x : Df} (h : drawn name x) : ∀ c ∈ x.2.1, c.1 ∈ nmC := by
  obtain ⟨_, ⟨k, _, _, hk, _⟩, _⟩ := h
  intro c hc
  have := List.mem_map_of_mem (f := fun y : Col => y.1) hc
  rw [hk] at this
  exact List.mem_of_mem_take this
theorem drawn.tab {name : ByteArray} {x : Df} (h : drawn name x) (hs : name.size ≤ 100) : tabD 5 x := by
  have hn := h.names
  obtain ⟨e, ⟨k, k2, k4, hc⟩, hp, hx⟩ := h
  have cl := colsD_len hc k4
  have ix := idx_names hx
  have ns : ∀ s ∈ nmC, s.size ≤ 100 := by decide
  have := partsM_len hp.2
  exact ⟨by rw [e]; exact hs, ⟨by omega, fun c hc => ns _ (hn c hc)⟩, by omega, by omega, fun y hy => ⟨ix.2.2.2 y hy, by have := partsM_len (hx.2 y hy); omega⟩⟩
theorem spec_l2Num.small {d : Nat} (hd : 1 ≤ d) {n : Int} (h0 : 0 ≤ n) (h1 : n < 10) : Tells (spec_l2Num.f d n) fun s => s.size = 1 := by
  obtain ⟨d, rfl, _⟩ := dep hd
  rw [spec_l2Num.t_eq]
  dsimp only [spec_l2Num.m]
  exact tn (by omega) (tp h1 (tl (strOfNums_size _)))
theorem str_in {s : ByteArray} {l : List ByteArray} (h : s ∈ l) (hl : ∀ x ∈ l, x.size ≤ 100) : s.size ≤ 100 := hl s h
theorem spec_l9Any.sp {d : Nat} (hd : 6 ≤ d) {b : List Int} {ci h : Int} (hc : cur b ci) : Tells (spec_l9Any.f d (b, ci, h)) fun r => tabD 7 (r.1, r.2.1, r.2.2.1, r.2.2.2.1) ∧ cur b r.2.2.2.2.1 := by
  obtain ⟨d, rfl, _⟩ := dep hd
  rw [spec_l9Any.t_eq]
  dsimp only [spec_l9Any.m]
  refine tb (spec_l9Draw.sp (by omega) hc _) fun r1 g1 => ?_
  obtain ⟨a, cs, ps, xs, c1, h1⟩ := r1
  obtain ⟨dr, cc⟩ := g1
  have dt := dr.tab (by decide)
  obtain ⟨t0, ⟨t1, t2⟩, t3, t4, t5⟩ := dt
  obtain ⟨_, ⟨k, k2, k4, hcs⟩, hp, _⟩ := dr
  simp only at t0 t1 t2 t3 t4 t5 cc hcs hp ⊢
  have cl := colsD_len hcs k4
  have pl := partsM_len hp.2
  have t5' : ∀ y ∈ xs, y.1.size ≤ 100 ∧ y.2.2.length ≤ 7 := fun y hy => by have := t5 y hy; omega
  refine tb (spec_l1Below.sp (by omega) cc) fun r2 g2 => tb (spec_l1Below.sp (by omega) g2.2.2) fun r3 g3 => ?_
  have q1 := g2.1
  have q2 := g2.2.1 (by omega)
  have rc : (List.getD cs (Int.toNat r2.1) (ByteArray.empty, (0 : Int), false)).1.size ≤ 100 := t2 _ (at_mem q1 q2)
  have ii : (decide (0 ≤ r2.1) && decide (r2.1 < (cs.length : Int))) = true := by rw [decide_eq_true q1, decide_eq_true q2]; rfl
  refine teq (fun _ => tb (spec_l1Str.sp (by omega) g3.2.2 (by simp)) fun r4 g4 => tl ⟨⟨str_in g4.1 (by decide), ⟨by simp only; omega, t2⟩, by simp only; omega, by simp only; omega, t5'⟩, g4.2⟩) fun _ => ?_
  refine teq (fun _ => tb (spec_l1Str.sp (by omega) g3.2.2 (by simp)) fun r4 g4 => tt ii (tl ⟨⟨t0, ⟨by simp only [List.length_set]; omega, set_all t2 (str_in g4.1 (by decide))⟩, by simp only; omega, by simp only; omega, t5'⟩, g4.2⟩)) fun _ => ?_
  refine teq (fun _ => tb (spec_l1Below.sp (by omega) g3.2.2) fun r4 g4 => tt ii (tl ⟨⟨t0, ⟨by simp only [List.length_set]; omega, set_all t2 rc⟩, by simp only; omega, by simp only; omega, t5'⟩, g4.2.2⟩)) fun _ => ?_
  refine teq (fun _ => tt ii (tt ii (tl ⟨⟨t0, ⟨by simp only [List.length_set]; omega, set_all t2 rc⟩, by simp only; omega, by simp only; omega, t5'⟩, g3.2.2⟩))) fun _ => ?_
  refine teq (fun _ => ?_) fun _ => ?_
  · rw [wrap_id (by omega) (by omega)]
    exact tb (spec_l9Draw2.sp (by omega) g3.2.2 (by omega) (by omega)) fun r4 g4 => tl ⟨⟨t0, ⟨by simp only; omega, t2⟩, by have := partsM_len g4.1; simp only; omega, by simp only; omega, t5'⟩, g4.2⟩
  refine teq (fun _ => tt (by rw [decide_eq_true (show (0 : Int) < (ps.length : Int) by omega)]; rfl) (tp (by simp only [List.length_cons, List.length_nil]; omega) (tl ⟨⟨t0, ⟨by simp only; omega, t2⟩, by simp only [List.length_append, List.length_cons, List.length_nil]; omega, by simp only; omega, t5'⟩, g3.2.2⟩))) fun _ => ?_
  refine teq (fun _ => tb (spec_l1Str.sp (by omega) g3.2.2 (by simp)) fun r4 g4 => ?_) fun _ => ?_
  · rw [wrap_id (by omega) (by omega)]
    refine tb (spec_l9Draw2.sp (by omega) g4.2 (by omega) (by omega)) fun r5 g5 => tp (by simp only [List.length_cons, List.length_nil]; omega) (tl ⟨⟨t0, ⟨by simp only; omega, t2⟩, by simp only; omega, by simp only [List.length_append, List.length_cons, List.length_nil]; omega, mem_snoc t5' ⟨str_in g4.1 (by decide), ?_⟩⟩, g5.2⟩)
    have := partsM_len g5.1; simp only; omega
  refine teq (fun _ => tb (spec_l1Below.sp (by omega) g3.2.2) fun r4 g4 => tt ?_ (tl ⟨⟨t0, ⟨by simp only [List.length_take]; omega, fun c hc => t2 c (List.mem_of_mem_take hc)⟩, by simp only; omega, by simp only; omega, t5'⟩, g4.2.2⟩)) fun _ => ?_
  · have := g4.2.1 (by omega)
    rw [decide_eq_true g4.1, decide_eq_true (show r4.1 ≤ (cs.length : Int) by omega)]; rfl
  refine teq (fun _ => ?_) fun _ => tl ⟨⟨t0, ⟨by simp only; omega, t2⟩, by simp only; omega, by simp only; omega, t5'⟩, g3.2.2⟩
  have key : ∀ (R : Nat) (ci h : Int) (cs : List Col), cs.length ≤ 7 → 7 - cs.length < R → (∀ c ∈ cs, c.1.size ≤ 100) → cur b ci → Tells (iter (spec_l9Any.S1 d) R (b, ci, h, ByteArray.empty, ([] : List Col), ([] : List By), ([] : List Ix), a, cs, ps, xs)) fun r => tabD 7 (r.1, r.2.1, r.2.2.1, r.2.2.2.1) ∧ cur b r.2.2.2.2.1 := by
    intro R
    induction R with
    | zero => intro ci h cs h1 h2; omega
    | succ R ih =>
      intro ci h cs h1 h2 h3 hc
      simp only [iter]
      dsimp only [spec_l9Any.S1, spec_l9Any.s1]
      refine tb (spec_l1Below.sp (by omega) hc) fun r5 g5 => ?_
      have b0 := g5.1
      have b1 := g5.2.1 (by omega)
      rw [wrap_id (by omega) (by omega)]
      refine tif (fun c => tb (spec_l2Num.small (by omega) (by omega) (by omega)) fun s hs => tp ?_ (tp ?_ ?_)) fun c => tl ⟨⟨t0, ⟨h1, h3⟩, by simp only; omega, by simp only; omega, t5'⟩, g5.2.2⟩
      · rw [hs]; decide
      · simp only [List.length_cons, List.length_nil]; omega
      · refine ih _ _ _ (by simp only [List.length_append, List.length_cons, List.length_nil]; omega) (by simp only [List.length_append, List.length_cons, List.length_nil]; omega) (mem_snoc h3 ?_) g5.2.2
        show ((⟨#[122]⟩ : ByteArray) ++ s).size ≤ 100
        rw [ByteArray.size_append, hs]; decide
  exact key rnds _ _ cs (by omega) (rnds_gt (by omega)) t2 g3.2.2
theorem spec_DrawIndexPlan.sp {d : Nat} (hd : 7 ≤ d) {b : List Int} (hl : b.length ≤ 1048576) : Tells (spec_DrawIndexPlan.f d b) fun r => tabD 7 (r.1, r.2.1, r.2.2.1, r.2.2.2.1) := by
  obtain ⟨d, rfl, _⟩ := dep hd
  rw [spec_DrawIndexPlan.t_eq]
  dsimp only [spec_DrawIndexPlan.m]
  refine tb (spec_l1New.sp (by omega) hl) fun r1 h1 => ?_
  rw [h1.1]
  exact tb (spec_l9Any.sp (by omega) h1.2) fun r2 g2 => tb (spec_l1Int.sp (by omega) g2.2 (by simp)) fun r3 g3 => tl g2.1
theorem impl_PartOk.sp {d : Nat} (hd : 2 ≤ d) (p : Pt) : impl_PartOk.f d (p.1, p.2.1, p.2.2.1, p.2.2.2) = some (partOkM p.1 p.2.1) := by
  obtain ⟨d, rfl, _⟩ := dep hd
  rw [impl_PartOk.t_eq]
  dsimp only [impl_PartOk.m]
  unfold partOkM
  refine Tells.eq (tc (impl_in.sp (by omega) _ _ _) (tbif (fun c => ?_) fun c => ?_))
  · rw [if_pos c]; exact tc (impl_in.sp (by omega) _ _ _) (tl rfl)
  · rw [if_neg (by rw [c]; simp)]; exact tl rfl
def planOkM (l : List Pt) : Bool := l.all (fun p => partOkM p.1 p.2.1) && decide (l.length ≤ 6)
theorem impl_PlanOk.sp {d : Nat} (hd : 3 ≤ d) {l : List Pt} (hl : l.length ≤ 140737488351232) : impl_PlanOk.f d l = some (planOkM l) := by
  obtain ⟨d, rfl, _⟩ := dep hd
  rw [impl_PlanOk.t_eq]
  dsimp only [impl_PlanOk.m]
  suffices g : Tells (iter (impl_PlanOk.S0 d) rnds (l, (l.length : Int), (0 : Int))) (· = (l.all (fun p => partOkM p.1 p.2.1) && decide (l.length ≤ 6))) from g.eq
  have g := loopL (impl_PlanOk.S0 d) l (fun i => (l, (l.length : Int), i)) (fun i (r : List Pt) => r.all (fun p => partOkM p.1 p.2.1) && decide (l.length ≤ 6 ∨ r.length = 0 )) (by omega) (fun L => ?_) fun L i hi ih => ?_
  · refine g.mono fun r hr => ?_
    rw [hr]
    by_cases c : l.length ≤ 6
    · simp [c]
    · have : ¬ l.length = 0 := by omega
      simp [c, this]
  · dsimp only [impl_PlanOk.S0, impl_PlanOk.s0]
    exact tn (by omega) (tl (by simp))
  · dsimp only [impl_PlanOk.S0, impl_PlanOk.s0]
    refine tp (by omega) (ti hi ?_)
    rw [getD_in hi, wrap_succ (by omega), List.all_cons, List.length_cons]
    refine tif (fun c => tl ?_) fun c => tc (impl_PartOk.sp (by omega) _) ?_
    · rw [decide_eq_false (show ¬ (l.length ≤ 6 ∨ (l.drop (i + 1)).length + 1 = 0) by omega), Bool.and_false]
    cases partOkM l[i].1 l[i].2.1
    · exact tt rfl (tl (by simp))
    · refine tf rfl (ih.mono fun r hr => ?_)
      rw [hr, Bool.true_and]
      congr 1
      rw [List.length_drop]
      by_cases c6 : l.length ≤ 6
      · simp [c6]
      · rw [decide_eq_false (show ¬ (l.length ≤ 6 ∨ l.length - (i + 1) = 0) by omega), decide_eq_false (show ¬ (l.length ≤ 6 ∨ l.length - (i + 1) + 1 = 0) by omega)]
theorem mk_ok {x : Df} (g : goodM x) {ps : List By} (h : partsM x.2.1.length ps = true) : ∀ p ∈ ps.map (mkPart x.2.1), partOkM p.1 p.2.1 = true := by
  intro p hp
  obtain ⟨y, hy, rfl⟩ := List.mem_map.1 hp
  have q := partsM_in h y hy
  have t := g.types
  show partOkM y.1 (colAt x.2.1 y.1).2.1 = true
  unfold partOkM
  rw [if_pos (inB_iff.2 ⟨q.1, by omega⟩)]
  exact t.1 _ (at_mem q.1 q.2)
theorem rowR_ok : ∀ (r : List Col) (i : Nat), (∀ c ∈ r, inB c.2.1 1 4 = true) → i + r.length ≤ 10 → ∀ p ∈ rowR i r, partOkM p.1 p.2.1 = true
  | [], _, _, _, p, hp => by cases hp
  | c :: r, i, h, hl, p, hp => by
    rw [List.length_cons] at hl
    rw [rowR] at hp
    rcases List.mem_cons.1 hp with e | hp
    · rw [e]
      show partOkM (i : Int) c.2.1 = true
      unfold partOkM
      rw [if_pos (inB_iff.2 ⟨by omega, by omega⟩)]
      exact h c List.mem_cons_self
    · exact rowR_ok r (i + 1) (fun x hx => h x (List.mem_cons_of_mem _ hx)) (by omega) p hp
theorem planOkM_of {l : List Pt} (h : ∀ p ∈ l, partOkM p.1 p.2.1 = true) (hl : l.length ≤ 6) : planOkM l = true := by
  unfold planOkM
  rw [List.all_eq_true.2 h, decide_eq_true hl]; rfl
theorem plan_ok {x : Df} (g : goodM x) : planOkM (planP x) = true ∧ planOkM (planR x) = true ∧ ∀ i, planOkM (planI x i) = true := by
  have c := checkM_iff.2 g
  have p := g.parts
  have pl := partsM_len p.1
  have t := g.types
  refine ⟨?_, ?_, fun i => ?_⟩
  · unfold planP
    rw [decide_eq_true c, cond_true]
    exact planOkM_of (mk_ok g p.1) (by rw [List.length_map]; omega)
  · unfold planR
    rw [decide_eq_true c, cond_true]
    exact planOkM_of (rowR_ok _ 0 t.1 (by omega)) (by rw [rowR_len]; omega)
  · unfold planI
    rw [decide_eq_true c, cond_true]
    cases e : inB i 0 ((x.2.2.2.length : Int) - 1) with
    | false => rfl
    | true =>
      have b := inB_iff.1 e
      have m : ixAt x.2.2.2 i ∈ x.2.2.2 := at_mem b.1 (by omega)
      have gl := partsM_len (p.2 _ m)
      rw [cond_true]
      refine planOkM_of (fun q hq => ?_) (by rw [List.length_append, List.length_map, List.length_map]; omega)
      rcases List.mem_append.1 hq with h | h
      · exact mk_ok g (p.2 _ m) q h
      · exact mk_ok g p.1 q h
theorem laws_FnPlans.l0 {d : Nat} (A Q : List Pt) (lA : A.length ≤ 2) (lQ : Q.length ≤ 2) : Tells (iter (laws_FnPlans.S0 d) rnds ((A.length : Int), (0 : Int), Q, A ++ Q)) (· = true) := by
  refine loopPass (laws_FnPlans.S0 d) Q (fun j => ((A.length : Int), j, Q, A ++ Q)) _ (by omega) (fun L => ?_) fun L j hj ih => ?_
  · dsimp only [laws_FnPlans.S0, laws_FnPlans.s0]
    exact tn (by omega) (tl rfl)
  · dsimp only [laws_FnPlans.S0, laws_FnPlans.s0]
    have w : IntKind.wrap IntKind.i64 ((A.length : Int) + (j : Int)) = ((A.length + j : Nat) : Int) := by rw [wrap_id (by omega) (by omega)]; omega
    have hlt : A.length + j < (A ++ Q).length := by rw [List.length_append]; omega
    rw [w, wrap_succ (by omega)]
    refine tp (by omega) (ti hlt (ti hj ?_))
    rw [getD_in hlt, getD_in hj, List.getElem_append_right (by omega)]
    simp only [Nat.add_sub_cancel_left, beq_self_eq_true, Bool.and_self, Bool.not_true]
    exact tf rfl ih
theorem laws_FnPlans.pure {d : Nat} (hd : 8 ≤ d) {b : List Int} (h0 : okV (.row (.one (.int .u8))) b) : laws_FnPlans.f d b = some true := by
  obtain ⟨d, rfl, _⟩ := dep hd
  rw [laws_FnPlans.t_eq]
  dsimp only [laws_FnPlans.m]
  refine Tells.eq (tc (laws_big.sp (by omega) b) (tif (fun _ => tl rfl) fun h => ?_))
  refine tb (spec_DrawIndexPlan.sp (by omega) (by omega)) fun r hr => ?_
  obtain ⟨a, cs, ps, xs, i⟩ := r
  have hr : tabD 7 (a, cs, ps, xs) := hr
  have fit := hr.big (by decide)
  simp only
  have ip := impl_PrimaryPlan.sp (d := d) (by omega) fit
  have ii := impl_IndexPlan.sp (d := d) (by omega) fit i
  have ir := impl_RowPlan.sp (d := d) (by omega) fit
  have sc := spec_CheckDef.sp (d := d) (by omega) fit
  refine tc ip (tc ii (tc ir (tc sc (tneq (fun c => ?_) fun c => ?_))))
  · unfold planP planI planR
    rw [decide_eq_false c]
    exact tt rfl (tt rfl (tl rfl))
  have g := checkM_iff.1 c
  have ok := plan_ok g
  have p := g.parts
  have pl := partsM_len p.1
  have t := g.types
  have e1 : planP (a, cs, ps, xs) = ps.map (mkPart cs) := by unfold planP; rw [decide_eq_true c]; rfl
  have e2 : planR (a, cs, ps, xs) = rowR 0 cs := by unfold planR; rw [decide_eq_true c]; rfl
  have l1 : (planP (a, cs, ps, xs)).length = ps.length := by rw [e1, List.length_map]
  have l2 : (planR (a, cs, ps, xs)).length = cs.length := by rw [e2, rowR_len]
  have pz := planP_len (a, cs, ps, xs)
  have iz := planI_len (a, cs, ps, xs) i
  have rz := planR_len (a, cs, ps, xs)
  have kp := impl_PlanOk.sp (d := d) (l := planP (a, cs, ps, xs)) (by omega) (by omega)
  have ki := impl_PlanOk.sp (d := d) (l := planI (a, cs, ps, xs) i) (by omega) (by omega)
  have kr := impl_PlanOk.sp (d := d) (l := planR (a, cs, ps, xs)) (by omega) (by omega)
  rw [ok.1] at kp
  rw [ok.2.2 i] at ki
  rw [ok.2.1] at kr
  refine tneq (fun n => absurd (by rw [l1]) n) fun _ => tneq (fun n => absurd (by rw [l2]) n) fun _ => tc kp (tf rfl (tc ki (tf rfl (tc kr (tf rfl ?_)))))
  cases e : inB i 0 ((xs.length : Int) - 1) with
  | false =>
    have z : planI (a, cs, ps, xs) i = [] := by unfold planI; rw [decide_eq_true c, cond_true]; simp only; rw [e]; rfl
    rw [z]
    refine tif (fun _ => tl rfl) fun c1 => tif (fun _ => tl rfl) fun c2 => ?_
    exact absurd (inB_iff.2 (show 0 ≤ i ∧ i ≤ (xs.length : Int) - 1 by omega)) (by rw [e]; simp)
  | true =>
    have q := inB_iff.1 e
    have z : planI (a, cs, ps, xs) i = (ixAt xs i).2.2.map (mkPart cs) ++ ps.map (mkPart cs) := by unfold planI; rw [decide_eq_true c, cond_true]; simp only; rw [e]; rfl
    refine tn (by omega) (tn (by omega) (tt (by rw [decide_eq_true q.1, decide_eq_true (show i < (xs.length : Int) by omega)]; rfl) ?_))
    have m : ixAt xs i ∈ xs := at_mem q.1 (by omega)
    have gl := partsM_len (p.2 _ m)
    have pl2 : ps.length ≤ 2 := pl.2
    rw [z, e1]
    have e3 : (List.getD xs (Int.toNat i) (ByteArray.empty, false, ([] : List (Int × Bool)))).2.2 = (ixAt xs i).2.2 := rfl
    rw [e3]
    have w : IntKind.wrap IntKind.i64 (((ixAt xs i).2.2.length : Int) + ((ps.map (mkPart cs)).length : Int)) = ((((ixAt xs i).2.2.map (mkPart cs) ++ ps.map (mkPart cs)).length : Nat) : Int) := by
      rw [List.length_append, List.length_map, List.length_map, wrap_id (by omega) (by omega)]; omega
    rw [w]
    refine tneq (fun n => absurd rfl n) fun _ => ?_
    have k := laws_FnPlans.l0 (d := d) ((ixAt xs i).2.2.map (mkPart cs)) (ps.map (mkPart cs)) (by rw [List.length_map]; omega) (by rw [List.length_map]; omega)
    rw [List.length_map] at k
    exact k
end Go.PV.T
