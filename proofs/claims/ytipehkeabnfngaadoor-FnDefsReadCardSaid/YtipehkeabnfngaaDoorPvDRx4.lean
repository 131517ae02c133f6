/- Functions of the program by their own lists and numbers. No condition beyond those in each statement. -/
import Derived.Test.YtipehkeabnfngaaDoorPvDRx3
import Derived.Lib.Join
import Derived.KernelRfl
set_option linter.unusedVariables false
set_option linter.unusedSimpArgs false
set_option linter.unusedVariables false
namespace Go.PV.T
open Go Go.Proofs
theorem in_def (a lo hi : Int) : (bif decide (a ≥ lo) then some (decide (a ≤ hi)) else some false) = some (inB a lo hi) := by
 by_cases h : lo ≤ a <;> simp [inB, h]
theorem impl_in.sp {d : Nat} (hd : 1 ≤ d) (a lo hi : Int) : impl_in.f d (a, lo, hi) = some (inB a lo hi) := by
 obtain ⟨d, rfl, hd⟩ := dep hd
 rw [impl_in.t_eq]
 exact in_def a lo hi
theorem spec_l1In.sp {d : Nat} (hd : 1 ≤ d) (a lo hi : Int) : spec_l1In.f d (a, lo, hi) = some (inB a lo hi) := by
 obtain ⟨d, rfl, hd⟩ := dep hd
 rw [spec_l1In.t_eq]
 exact in_def a lo hi
abbrev Dk := (List (List Int)) × (List (Int × (List Int))) × Int × (List (Int × Int × Int)) × Bool
def dkFit (x : Dk) : Prop := (x.1.length ≤ 140737488351232 ∧ ∀ y ∈ x.1, y.length ≤ 140737488351232) ∧ (x.2.1.length ≤ 140737488351232 ∧ ∀ y ∈ x.2.1, y.2.length ≤ 140737488351232) ∧ x.2.2.2.1.length ≤ 140737488351232
def ww (x : Int × List Int) : Nat := x.2.length + 1
def dkW (x : Dk) : Nat := wSum List.length x.1 + wSum ww x.2.1 + wSum (fun _ : Int × Int × Int => 3) x.2.2.2.1
def dkOk (x : Dk) : Prop := okV (.row (.one (.row (.one (.int .u8))))) x.1 ∧ okV (.row (.cons (.int .i64) (.one (.row (.one (.int .u8)))))) x.2.1 ∧ okV (.row (.cons (.int .i64) (.cons (.int .i64) (.one (.int .i64))))) x.2.2.2.1
theorem okRow_len {cs : SS} {l : List cs.T} (h : okV (.row cs) l) : l.length ≤ 140737488351232 := Nat.le_trans (Nat.le_mul_of_pos_right _ (SS.size_pos cs)) h.1
theorem dkOk.fit {x : Dk} (h : dkOk x) : dkFit x :=
 ⟨⟨okRow_len h.1, fun y hy => okRow_len (h.1.2 y hy)⟩, ⟨okRow_len (cs := .cons (.int .i64) (.one (.row (.one (.int .u8))))) h.2.1, fun y hy => okRow_len (h.2.1.2 y hy).2⟩, okRow_len (cs := .cons (.int .i64) (.cons (.int .i64) (.one (.int .i64)))) h.2.2⟩
def dkSm (x : Dk) : Prop := (x.1.length ≤ 1048576 ∧ ∀ y ∈ x.1, y.length ≤ 1048576) ∧ (x.2.1.length ≤ 1048576 ∧ ∀ y ∈ x.2.1, y.2.length ≤ 1048576) ∧ x.2.2.2.1.length ≤ 1048576 ∧ dkW x ≤ 10000000
theorem dkSm.fit {x : Dk} (h : dkSm x) : dkFit x := ⟨⟨by have := h.1.1; omega, fun y hy => by have := h.1.2 y hy; omega⟩, ⟨by have := h.2.1.1; omega, fun y hy => by have := h.2.1.2 y hy; omega⟩, by have := h.2.2.1; omega⟩
def dkB (x : Dk) : Prop := (x.1.length ≤ 1048577 ∧ ∀ y ∈ x.1, y.length ≤ 1048577) ∧ (x.2.1.length ≤ 1048577 ∧ ∀ y ∈ x.2.1, y.2.length ≤ 1048577) ∧ x.2.2.2.1.length ≤ 1048577
theorem dkB.fit {x : Dk} (h : dkB x) : dkFit x := ⟨⟨by have := h.1.1; omega, fun y hy => by have := h.1.2 y hy; omega⟩, ⟨by have := h.2.1.1; omega, fun y hy => by have := h.2.1.2 y hy; omega⟩, by have := h.2.2; omega⟩
theorem and_le_nat (x : Int) (n : Nat) (hn : n < 2 ^ 62) : 0 ≤ Go.bits .and .i64 x (n : Int) ∧ Go.bits .and .i64 x (n : Int) ≤ n := by
 have e : (BitVec.ofInt IntKind.i64.bits ((n : Nat) : Int)).toNat = n := by
  rw [BitVec.ofInt_natCast, BitVec.toNat_ofNat]
  exact Nat.mod_eq_of_lt (Nat.lt_of_lt_of_le hn (Nat.pow_le_pow_right (by decide) (by decide)))
 have h : (BitVec.ofInt IntKind.i64.bits x &&& BitVec.ofInt IntKind.i64.bits ((n : Nat) : Int)).toNat ≤ n := by
  rw [BitVec.toNat_and, e]
  exact Nat.and_le_right
 have g : Go.bits .and .i64 x (n : Int) = IntKind.i64.wrap ((BitVec.ofInt IntKind.i64.bits x &&& BitVec.ofInt IntKind.i64.bits ((n : Nat) : Int)).toNat : Int) := rfl
 rw [g, IntKind.wrap_i64]
 omega
theorem low_byte (x : Int) : 0 ≤ IntKind.wrap IntKind.i64 ((BitVec.ofInt (IntKind.bits IntKind.i64) x &&& BitVec.ofInt (IntKind.bits IntKind.i64) (255 : Int)).toNat : Int) ∧ IntKind.wrap IntKind.i64 ((BitVec.ofInt (IntKind.bits IntKind.i64) x &&& BitVec.ofInt (IntKind.bits IntKind.i64) (255 : Int)).toNat : Int) ≤ 255 := and_le_nat x 255 (by decide)
def cur (b : List Int) (p : Int) : Prop := b.length ≤ 1048576 ∧ 0 ≤ p ∧ p ≤ b.length
theorem spec_l1New.sp {d : Nat} (hd : 1 ≤ d) {b : List Int} (hl : b.length ≤ 1048576) : Tells (spec_l1New.f d b) fun r => r.1 = b ∧ cur b r.2.1 := by
 obtain ⟨d, rfl, _⟩ := dep hd
 rw [spec_l1New.t_eq]
 dsimp only [spec_l1New.m]
 refine loop0 (σ := Int) (spec_l1New.S0 d) (min b.length 4000) (fun x i => (b, x, i)) (fun _ _ => True) (fun _ _ r => r.1 = b ∧ cur b r.2.1) _ (by omega) trivial ?_ ?_
 ·intro L x _
  have hc : cur b 0 := ⟨hl, by omega, by omega⟩
  dsimp only [spec_l1New.S0, spec_l1New.s0]
  exact tif (fun _ => tif (fun _ => ti (by omega) (by omega)) fun _ => tl ⟨rfl, hc⟩) fun _ => tl ⟨rfl, hc⟩
 ·intro L x i _ hi ih
  dsimp only [spec_l1New.S0, spec_l1New.s0]
  refine tp (by omega) (tp (by omega) (ti (by omega) ?_))
  rw [wrap_succ (by omega)]
  exact ih _ trivial
theorem spec_l1Byte.sp {d : Nat} (hd : 1 ≤ d) {b : List Int} {p x : Int} (hc : cur b p) : Tells (spec_l1Byte.f d (b, p, x)) fun r => 0 ≤ r.1 ∧ r.1 ≤ 255 ∧ cur b r.2.1 := by
 obtain ⟨d, rfl, _⟩ := dep hd
 rw [spec_l1Byte.t_eq]
 dsimp only [spec_l1Byte.m]
 obtain ⟨h1, h2, h3⟩ := hc
 refine tp (by decide) (tp (by decide) (tif (fun c => tt (by rw [decide_eq_true h2, decide_eq_true c]; rfl) (tl ?_)) fun c => tl ?_))
 ·refine ⟨(low_byte _).1, (low_byte _).2, h1, ?_⟩
  show 0 ≤ IntKind.wrap IntKind.i64 (p + 1) ∧ IntKind.wrap IntKind.i64 (p + 1) ≤ (b.length : Int)
  rw [wrap_id (x := p + 1) (by omega) (by omega)]
  omega
 ·exact ⟨(low_byte _).1, (low_byte _).2, h1, h2, h3⟩
theorem spec_l1Below.sp {d : Nat} (hd : 2 ≤ d) {b : List Int} {p x n : Int} (hc : cur b p) : Tells (spec_l1Below.f d (b, p, x, n)) fun r => 0 ≤ r.1 ∧ (0 < n → r.1 < n) ∧ cur b r.2.1 := by
 obtain ⟨d, rfl, _⟩ := dep hd
 rw [spec_l1Below.t_eq]
 dsimp only [spec_l1Below.m]
 refine tif (fun c => tl ⟨by omega, fun h => by omega, hc⟩) fun c => tif (fun c2 => ?_) fun c2 => ?_
 ·refine tb (spec_l1Byte.sp (by omega) hc) fun r hr => tp (by omega) (tl ?_)
  rw [Int.tmod_eq_emod_of_nonneg hr.1]
  exact ⟨Int.emod_nonneg _ (by omega), fun _ => Int.emod_lt_of_pos _ (by omega), hr.2.2⟩
 ·refine tb (spec_l1Byte.sp (by omega) hc) fun r2 h2 => tb (spec_l1Byte.sp (by omega) h2.2.2) fun r3 h3 => tb (spec_l1Byte.sp (by omega) h3.2.2) fun r4 h4 => tp (by omega) (tl ?_)
  have e : IntKind.wrap IntKind.i64 ((IntKind.wrap IntKind.i64 ((IntKind.wrap IntKind.i64 (r2.1 * (65536 : Int))) + (IntKind.wrap IntKind.i64 (r3.1 * (256 : Int))))) + r4.1) = r2.1 * 65536 + r3.1 * 256 + r4.1 := by
   rw [wrap_id (x := r2.1 * 65536) (by omega) (by omega), wrap_id (x := r3.1 * 256) (by omega) (by omega), wrap_id (x := r2.1 * 65536 + r3.1 * 256) (by omega) (by omega), wrap_id (by omega) (by omega)]
  rw [e, Int.tmod_eq_emod_of_nonneg (by omega)]
  exact ⟨Int.emod_nonneg _ (by omega), fun _ => Int.emod_lt_of_pos _ (by omega), h4.2.2⟩
theorem spec_l1Int.sp {d : Nat} (hd : 3 ≤ d) {b : List Int} {p x : Int} {l : List Int} (hc : cur b p) (h0 : 0 < l.length) : Tells (spec_l1Int.f d (b, p, x, l)) fun r => r.1 ∈ l ∧ cur b r.2.1 := by
 obtain ⟨d, rfl, _⟩ := dep hd
 rw [spec_l1Int.t_eq]
 dsimp only [spec_l1Int.m]
 refine tb (spec_l1Below.sp (by omega) hc) fun r hr => ?_
 have hlt := hr.2.1 (by omega)
 have hi : r.1.toNat < l.length := by omega
 have e : r.1 = ((r.1.toNat : Nat) : Int) := by omega
 rw [e]
 refine ti hi (tl ?_)
 rw [getD_in hi]
 exact ⟨List.getElem_mem hi, hr.2.2⟩
theorem spec_l1Once.sp {d : Nat} (hd : 3 ≤ d) {b : List Int} {p x n : Int} (hc : cur b p) : Tells (spec_l1Once.f d (b, p, x, n)) fun r => cur b r.2.1 := by
 obtain ⟨d, rfl, _⟩ := dep hd
 rw [spec_l1Once.t_eq]
 dsimp only [spec_l1Once.m]
 exact tb (spec_l1Below.sp (by omega) hc) fun r hr => tl hr.2.2
theorem laws_big.sp {d : Nat} (hd : 1 ≤ d) (b : List Int) : laws_big.f d b = some (decide ((b.length : Int) > 1048576)) := by
 obtain ⟨d, rfl, _⟩ := dep hd
 rw [laws_big.t_eq]
 rfl
abbrev Col := ByteArray × Int × Bool
abbrev By := Int × Bool
abbrev Ix := ByteArray × Bool × List (Int × Bool)
abbrev Df := ByteArray × List (ByteArray × Int × Bool) × List (Int × Bool) × List (ByteArray × Bool × List (Int × Bool))
theorem loopL {A R β : Type} (s : (A → Option R) → A → Option R) (l : List β) (mk : Int → A) (F : Nat → List β → R) (hl : l.length ≤ 4611686018427387904)
  (base : ∀ L, Tells (s L (mk (l.length : Int))) (· = F l.length []))
  (step : ∀ L i (hi : i < l.length), Tells (L (mk ((i + 1 : Nat) : Int))) (· = F (i + 1) (l.drop (i + 1))) → Tells (s L (mk (i : Int))) (· = F i (l[i] :: l.drop (i + 1)))) :
  Tells (iter s rnds (mk (0 : Int))) (· = F 0 l) := by
 have := loopE s l.length mk (fun i r => r = F i (l.drop i)) hl (fun L => by
  rw [List.drop_length]; exact base L) fun L i hi ih => by
  rw [drop_at hi]; exact step L i hi ih
 simpa using this
theorem loopStop {A R β : Type} (s : (A → Option R) → A → Option R) (l : List β) (mk : Int → A) (p : β → Bool) (v R0 : R) (hl : l.length ≤ 4611686018427387904)
  (base : ∀ L, Tells (s L (mk (l.length : Int))) (· = R0))
  (step : ∀ L i (hi : i < l.length) e, Tells (L (mk ((i + 1 : Nat) : Int))) (· = e) → Tells (s L (mk (i : Int))) (· = bif p l[i] then v else e)) :
  Tells (iter s rnds (mk (0 : Int))) (· = bif l.any p then v else R0) := by
 refine loopL s l mk (fun _ r => bif r.any p then v else R0) hl (fun L => base L) fun L i hi ih => ?_
 refine (step L i hi _ ih).mono fun r hr => ?_
 rw [hr, List.any_cons]
 cases p l[i] <;> rfl
theorem loopPass {A R β : Type} (s : (A → Option R) → A → Option R) (l : List β) (mk : Int → A) (Q : R → Prop) (hl : l.length ≤ 4611686018427387904)
  (base : ∀ L, Tells (s L (mk (l.length : Int))) Q)
  (step : ∀ L i (hi : i < l.length), Tells (L (mk ((i + 1 : Nat) : Int))) Q → Tells (s L (mk (i : Int))) Q) :
  Tells (iter s rnds (mk (0 : Int))) Q := loopE s l.length mk (fun _ => Q) hl base step
def wordsL : List ByteArray := [(⟨#[116, 97, 98, 108, 101]⟩ : ByteArray), (⟨#[112, 114, 105, 109, 97, 114, 121]⟩ : ByteArray), (⟨#[117, 110, 105, 113, 117, 101]⟩ : ByteArray), (⟨#[105, 110, 100, 101, 120]⟩ : ByteArray), (⟨#[110, 117, 108, 108]⟩ : ByteArray), (⟨#[100, 101, 115, 99]⟩ : ByteArray), (⟨#[105, 110, 116]⟩ : ByteArray), (⟨#[110, 117, 109]⟩ : ByteArray), (⟨#[116, 101, 120, 116]⟩ : ByteArray), (⟨#[98, 111, 111, 108]⟩ : ByteArray)]
theorem toList_inj {a b : ByteArray} (h : a.toList = b.toList) : a = b := by
 rw [ByteArray.toList_eq, ByteArray.toList_eq] at h
 exact ByteArray.ext (Array.toList_inj.1 h)
def isT (a b : ByteArray) : Bool := a.toList == b.toList
theorem isT_iff {a b : ByteArray} : isT a b = true ↔ a = b := by
 unfold isT
 rw [beq_iff_eq]
 exact ⟨toList_inj, fun h => by rw [h]⟩
def freeM (s : ByteArray) : Bool := nameM s.size 0 (bytesOf s) && !(wordsL.any fun w => isT w s)
def namesM (d : Df) : Bool := d.2.1.all (fun c => freeM c.1) && (d.2.2.2.all (fun x => freeM x.1) && freeM d.1)
def typesM (cs : List Col) : Bool := cs.all (fun c => inB c.2.1 1 4) && inB cs.length 1 6
def onceR : List ByteArray → List ByteArray → Bool
 | _, [] => true
 | p, x :: r => !(p.any fun y => isT y x) && onceR (p ++ [x]) r
def onceM (d : Df) : Bool := onceR [] (d.2.1.map (·.1)) && onceR [] (d.2.2.2.map (·.1))
def partsM (n : Int) (ps : List By) : Bool := match ps with
 | [a] => inB a.1 0 (n - 1)
 | [a, b] => inB a.1 0 (n - 1) && (inB b.1 0 (n - 1) && !decide (a.1 = b.1))
 | _ => false
theorem partsM_in {n : Int} {ps : List By} (h : partsM n ps = true) : ∀ p ∈ ps, 0 ≤ p.1 ∧ p.1 < n := by
 unfold partsM at h
 match ps, h with
 | [a], h => intro p hp; rw [List.mem_singleton] at hp; rw [hp]; have := inB_iff.1 h; omega
 | [a, b], h =>
  simp only [Bool.and_eq_true] at h
  have h1 := inB_iff.1 h.1
  have h2 := inB_iff.1 h.2.1
  intro p hp
  simp only [List.mem_cons, List.not_mem_nil, or_false] at hp
  rcases hp with e | e <;> rw [e] <;> omega
theorem partsM_len {n : Int} {ps : List By} (h : partsM n ps = true) : 1 ≤ ps.length ∧ ps.length ≤ 2 := by
 unfold partsM at h
 match ps, h with
 | [a], _ => exact ⟨by simp, by simp⟩
 | [a, b], _ => exact ⟨by simp, by simp⟩
theorem partsM_not {n : Int} {ps : List By} (h : ¬ inB ps.length 1 2 = true) : partsM n ps = false := by
 cases c : partsM n ps with
 | false => rfl
 | true => have := partsM_len c; exact absurd (inB_iff.2 ⟨by omega, by omega⟩) h
def allPartsM (d : Df) : Bool := d.2.2.2.all (fun x => partsM d.2.1.length x.2.2) && partsM d.2.1.length d.2.2.1
def colAt (cs : List Col) (i : Int) : Col := List.getD cs (Int.toNat i) (ByteArray.empty, (0 : Int), false)
def nullAt (cs : List Col) (p : By) : Bool := (colAt cs p.1).2.2
def checkM (d : Df) : Int :=
 bif namesM d then (bif typesM d.2.1 then (bif onceM d then (bif decide ((d.2.2.2.length : Int) > 2) then 6 else bif allPartsM d then (bif d.2.2.1.any (nullAt d.2.1) then 4 else 0) else 5) else 3) else 2) else 1
def goodM (d : Df) : Prop := namesM d = true ∧ typesM d.2.1 = true ∧ onceM d = true ∧ d.2.2.2.length ≤ 2 ∧ allPartsM d = true ∧ d.2.2.1.any (nullAt d.2.1) = false
theorem checkM_iff {d : Df} : checkM d = 0 ↔ goodM d := by
 unfold checkM goodM
 cases namesM d <;> cases typesM d.2.1 <;> cases onceM d <;> cases allPartsM d <;> cases d.2.2.1.any (nullAt d.2.1) <;> by_cases h : (d.2.2.2.length : Int) > 2 <;> simp [h] <;> omega
theorem at_mem {β : Type} {l : List β} {i : Int} {z : β} (h0 : 0 ≤ i) (h1 : i < l.length) : List.getD l (Int.toNat i) z ∈ l := by
 have e : i = ((i.toNat : Nat) : Int) := by omega
 rw [e, getD_in (show i.toNat < l.length by omega)]
 exact List.getElem_mem _
def firstR (l : List Df) : Nat → List Df → Int
 | _, [] => -1
 | i, d :: r => bif decide (checkM d = 0) && decide (i ≤ 2) then (bif (l.take i).any (fun e => isT e.1 d.1) then (i : Int) else firstR l (i + 1) r) else (i : Int)
def firstM (l : List Df) : Int := firstR l 0 l
theorem allParts_of {d : Df} (h : allPartsM d = true) : partsM d.2.1.length d.2.2.1 = true ∧ ∀ x ∈ d.2.2.2, partsM d.2.1.length x.2.2 = true := by
 unfold allPartsM at h
 rw [Bool.and_eq_true] at h
 exact ⟨h.2, fun x hx => List.all_eq_true.1 h.1 x hx⟩
theorem goodM.parts {d : Df} (h : goodM d) : partsM d.2.1.length d.2.2.1 = true ∧ ∀ x ∈ d.2.2.2, partsM d.2.1.length x.2.2 = true := allParts_of h.2.2.2.2.1
theorem goodM.types {d : Df} (h : goodM d) : (∀ c ∈ d.2.1, inB c.2.1 1 4 = true) ∧ 1 ≤ d.2.1.length ∧ d.2.1.length ≤ 6 := by
 have := h.2.1
 unfold typesM at this
 rw [Bool.and_eq_true] at this
 have q := inB_iff.1 this.2
 exact ⟨fun c hc => List.all_eq_true.1 this.1 c hc, by omega, by omega⟩
theorem ba_assoc (a b c : ByteArray) : a ++ b ++ c = a ++ (b ++ c) := by
 apply ByteArray.ext
 simp only [ByteArray.data_append, Array.append_assoc]
theorem ba_nil (a : ByteArray) : (⟨#[]⟩ : ByteArray) ++ a = a := by
 apply ByteArray.ext
 simp only [ByteArray.data_append, Array.empty_append]
def tyL : List ByteArray := [(⟨#[]⟩ : ByteArray), (⟨#[105, 110, 116]⟩ : ByteArray), (⟨#[110, 117, 109]⟩ : ByteArray), (⟨#[116, 101, 120, 116]⟩ : ByteArray), (⟨#[98, 111, 111, 108]⟩ : ByteArray)]
def tyAt (t : Int) : ByteArray := List.getD tyL (Int.toNat t) ByteArray.empty
theorem tyAt_size (t : Int) (h0 : 1 ≤ t) (h1 : t ≤ 4) : (tyAt t).size ≤ 4 := by
 have : t = 1 ∨ t = 2 ∨ t = 3 ∨ t = 4 := by omega
 rcases this with e | e | e | e <;> rw [e] <;> decide
def partOne (cs : List Col) (p : By) : ByteArray := bif p.2 then (colAt cs p.1).1 ++ (⟨#[32, 100, 101, 115, 99]⟩ : ByteArray) else (colAt cs p.1).1
def partTx (cs : List Col) (ps : List By) : ByteArray := match ps with
 | [p] => partOne cs p ++ (⟨#[59, 32]⟩ : ByteArray)
 | [p, q] => ((partOne cs p ++ (⟨#[44, 32]⟩ : ByteArray)) ++ partOne cs q) ++ (⟨#[59, 32]⟩ : ByteArray)
 | _ => (⟨#[]⟩ : ByteArray)
def namesS (cs : List Col) : Prop := ∀ c ∈ cs, c.1.size ≤ 8
theorem partOne_size {cs : List Col} (hc : namesS cs) (p : By) (h0 : 0 ≤ p.1) (h1 : p.1 < cs.length) : (partOne cs p).size ≤ 13 := by
 have : (colAt cs p.1).1.size ≤ 8 := hc _ (at_mem h0 h1)
 have z : (⟨#[32, 100, 101, 115, 99]⟩ : ByteArray).size = 5 := rfl
 unfold partOne
 cases p.2
 ·show (colAt cs p.1).1.size ≤ 13; omega
 ·show ((colAt cs p.1).1 ++ (⟨#[32, 100, 101, 115, 99]⟩ : ByteArray)).size ≤ 13
  rw [ByteArray.size_append]; omega
theorem partTx_size {cs : List Col} (hc : namesS cs) (ps : List By) (h : partsM cs.length ps = true) : (partTx cs ps).size ≤ 30 := by
 have pin := partsM_in h
 have z1 : (⟨#[59, 32]⟩ : ByteArray).size = 2 := rfl
 have z2 : (⟨#[44, 32]⟩ : ByteArray).size = 2 := rfl
 match ps, h with
 | [p], _ =>
  have p1 := pin p (by simp)
  have := partOne_size hc p p1.1 p1.2
  simp only [partTx, ByteArray.size_append]
  omega
 | [p, q], _ =>
  have p1 := pin p (by simp)
  have q1 := pin q (by simp)
  have := partOne_size hc p p1.1 p1.2
  have := partOne_size hc q q1.1 q1.2
  simp only [partTx, ByteArray.size_append]
  omega
def colS (s : ByteArray) (c : Col) : ByteArray := (bif c.2.2 then (s ++ ((c.1 ++ (⟨#[32]⟩ : ByteArray)) ++ tyAt c.2.1)) ++ (⟨#[32, 110, 117, 108, 108]⟩ : ByteArray) else s ++ ((c.1 ++ (⟨#[32]⟩ : ByteArray)) ++ tyAt c.2.1)) ++ (⟨#[59, 32]⟩ : ByteArray)
def idxS (cs : List Col) (s : ByteArray) (x : Ix) : ByteArray := s ++ ((((bif x.2.1 then (⟨#[117, 110, 105, 113, 117, 101, 32]⟩ : ByteArray) else (⟨#[105, 110, 100, 101, 120, 32]⟩ : ByteArray)) ++ x.1) ++ (⟨#[32]⟩ : ByteArray)) ++ partTx cs x.2.2)
def headTx (d : Df) : ByteArray := ((⟨#[116, 97, 98, 108, 101, 32]⟩ : ByteArray) ++ d.1) ++ (⟨#[32, 123, 32]⟩ : ByteArray)
def restTx (d : Df) (s : ByteArray) : ByteArray :=
 d.2.2.2.foldl (idxS d.2.1) (s ++ ((⟨#[112, 114, 105, 109, 97, 114, 121, 32]⟩ : ByteArray) ++ partTx d.2.1 d.2.2.1)) ++ (⟨#[125]⟩ : ByteArray)
def defTx (d : Df) : ByteArray := bif decide (checkM d = 0) then restTx d (d.2.1.foldl colS (headTx d)) else (⟨#[]⟩ : ByteArray)
theorem colS_size (s : ByteArray) (c : Col) (h : c.1.size ≤ 8 ∧ 1 ≤ c.2.1 ∧ c.2.1 ≤ 4) : (colS s c).size ≤ s.size + 30 := by
 have t := tyAt_size c.2.1 h.2.1 h.2.2
 have z1 : (⟨#[32]⟩ : ByteArray).size = 1 := rfl
 have z2 : (⟨#[32, 110, 117, 108, 108]⟩ : ByteArray).size = 5 := rfl
 have z3 : (⟨#[59, 32]⟩ : ByteArray).size = 2 := rfl
 unfold colS
 cases c.2.2 <;> simp only [cond_true, cond_false, ByteArray.size_append] <;> omega
theorem idxS_size {cs : List Col} (hc : namesS cs) (s : ByteArray) (x : Ix) (h : x.1.size ≤ 8 ∧ partsM cs.length x.2.2 = true) : (idxS cs s x).size ≤ s.size + 60 := by
 have t := partTx_size hc x.2.2 h.2
 have z1 : (⟨#[32]⟩ : ByteArray).size = 1 := rfl
 have z2 : (⟨#[117, 110, 105, 113, 117, 101, 32]⟩ : ByteArray).size = 7 := rfl
 have z3 : (⟨#[105, 110, 100, 101, 120, 32]⟩ : ByteArray).size = 6 := rfl
 unfold idxS
 cases x.2.1 <;> simp only [cond_true, cond_false, ByteArray.size_append] <;> omega
theorem nameM_end (n : Int) : ∀ (l : List Int) (i : Nat), nameM n i l = true → inB n 1 8 = true
 | [], _, h => h
 | x :: r, i, h => by
  rw [nameM] at h
  split at h
  ·exact nameM_end n r (i + 1) h
  ·split at h
   ·cases h
   ·split at h
    ·exact nameM_end n r (i + 1) h
    ·cases h
theorem freeM_size {s : ByteArray} (h : freeM s = true) : 1 ≤ s.size ∧ s.size ≤ 8 := by
 unfold freeM at h
 rw [Bool.and_eq_true] at h
 have := inB_iff.1 (nameM_end _ _ _ h.1)
 omega
theorem goodM.names {d : Df} (h : goodM d) : freeM d.1 = true ∧ (∀ c ∈ d.2.1, freeM c.1 = true) ∧ ∀ x ∈ d.2.2.2, freeM x.1 = true := by
 have := h.1
 unfold namesM at this
 rw [Bool.and_eq_true, Bool.and_eq_true] at this
 exact ⟨this.2.2, fun c hc => List.all_eq_true.1 this.1 c hc, fun x hx => List.all_eq_true.1 this.2.1 x hx⟩
theorem foldl_size {β : Type} (f : ByteArray → β → ByteArray) (B : Nat) : ∀ (l : List β) (s : ByteArray), (∀ x ∈ l, ∀ s, (f s x).size ≤ s.size + B) → (l.foldl f s).size ≤ s.size + B * l.length
 | [], s, _ => by simp
 | x :: r, s, h => by
  rw [List.foldl_cons, List.length_cons]
  have h1 := h x List.mem_cons_self s
  have h2 := foldl_size f B r (f s x) (fun y hy => h y (List.mem_cons_of_mem _ hy))
  rw [Nat.mul_add]
  omega
theorem defTx_size (d : Df) : (defTx d).size ≤ 2000 := by
 unfold defTx
 by_cases c : checkM d = 0
 rotate_left
 ·rw [decide_eq_false c]; exact Nat.zero_le _
 rw [decide_eq_true c, cond_true]
 have g := checkM_iff.1 c
 obtain ⟨n1, n2, n3⟩ := g.names
 obtain ⟨t1, t2, t3⟩ := g.types
 obtain ⟨p1, p2⟩ := g.parts
 have x2 := g.2.2.2.1
 have hn : namesS d.2.1 := fun c hc => (freeM_size (n2 c hc)).2
 have z4 : (⟨#[116, 97, 98, 108, 101, 32]⟩ : ByteArray).size = 6 := rfl
 have z5 : (⟨#[32, 123, 32]⟩ : ByteArray).size = 3 := rfl
 have z6 : (⟨#[112, 114, 105, 109, 97, 114, 121, 32]⟩ : ByteArray).size = 8 := rfl
 have z9 : (⟨#[125]⟩ : ByteArray).size = 1 := rfl
 have pz := partTx_size hn _ p1
 have n0 := (freeM_size n1).2
 unfold restTx headTx
 have f1 := foldl_size colS 30 d.2.1 (((⟨#[116, 97, 98, 108, 101, 32]⟩ : ByteArray) ++ d.1) ++ (⟨#[32, 123, 32]⟩ : ByteArray)) (fun x hx s => colS_size s x ⟨hn x hx, inB_iff.1 (t1 x hx)⟩)
 have f2 := foldl_size (idxS d.2.1) 60 d.2.2.2 (d.2.1.foldl colS (((⟨#[116, 97, 98, 108, 101, 32]⟩ : ByteArray) ++ d.1) ++ (⟨#[32, 123, 32]⟩ : ByteArray)) ++ ((⟨#[112, 114, 105, 109, 97, 114, 121, 32]⟩ : ByteArray) ++ partTx d.2.1 d.2.2.1)) (fun x hx s => idxS_size hn s x ⟨(freeM_size (n3 x hx)).2, p2 x hx⟩)
 simp only [ByteArray.size_append] at f1 f2 ⊢
 omega
def defsS (s : ByteArray) (d : Df) : ByteArray := s ++ (defTx d ++ (⟨#[10]⟩ : ByteArray))
def defsTx (l : List Df) : ByteArray := l.foldl defsS (⟨#[]⟩ : ByteArray)
def Ahead (a b : List Int) : Prop := ∃ c x y r s, a = c ++ x :: r ∧ b = c ++ y :: s ∧ x < y
theorem Ahead.hd {x y : Int} {r s : List Int} (h : x < y) : Ahead (x :: r) (y :: s) := ⟨[], x, y, r, s, rfl, rfl, h⟩
def dfFit (k : Nat) (x : Df) : Prop := x.1.size ≤ k ∧ (x.2.1.length ≤ k ∧ ∀ y ∈ x.2.1, y.1.size ≤ k) ∧ x.2.2.1.length ≤ k ∧ (x.2.2.2.length ≤ k ∧ ∀ y ∈ x.2.2.2, y.1.size ≤ k ∧ y.2.2.length ≤ k)
theorem dfFit.mono {k m : Nat} {x : Df} (h : dfFit k x) (hm : k ≤ m) : dfFit m x :=
 ⟨by have := h.1; omega, ⟨by have := h.2.1.1; omega, fun y hy => by have := h.2.1.2 y hy; omega⟩, by have := h.2.2.1; omega, by have := h.2.2.2.1; omega, fun y hy => by have := h.2.2.2.2 y hy; omega⟩
theorem get_byte {s : ByteArray} {i : Nat} (h : i < (bytesOf s).length) : ((ByteArray.get! s (Int.toNat (i : Int))).toNat : Int) = (bytesOf s)[i] := by
 have h2 : i < s.data.size := by simpa [strNums] using h
 rw [Int.toNat_natCast]
 simp [strNums, ByteArray.get!, getElem!_pos s.data i h2]
theorem byte_in {s : ByteArray} {i : Nat} (h : i < (bytesOf s).length) : 0 ≤ (bytesOf s)[i] ∧ (bytesOf s)[i] ≤ 255 := bytesOf_bytes s _ (List.getElem_mem h)
theorem impl_isLetter.sp {d : Nat} (hd : 1 ≤ d) (a : Int) : impl_isLetter.f d a = some (inB a 97 122) := by
 obtain ⟨d, rfl, _⟩ := dep hd
 rw [impl_isLetter.t_eq]
 exact in_def a 97 122
theorem impl_isDigit.sp {d : Nat} (hd : 1 ≤ d) (a : Int) : impl_isDigit.f d a = some (inB a 48 57) := by
 obtain ⟨d, rfl, _⟩ := dep hd
 rw [impl_isDigit.t_eq]
 exact in_def a 48 57
theorem spec_l8Small.sp {d : Nat} (hd : 2 ≤ d) {a : Int} (h : 0 ≤ a ∧ a ≤ 255) : spec_l8Small.f d a = some (inB a 97 122) := by
 obtain ⟨d, rfl, _⟩ := dep hd
 rw [spec_l8Small.t_eq]
 dsimp only [spec_l8Small.m]
 rw [wrap_id (by omega) (by omega), spec_l1In.sp (by omega)]; rfl
theorem spec_l2Digit.sp {d : Nat} (hd : 2 ≤ d) {a : Int} (h : 0 ≤ a ∧ a ≤ 255) : spec_l2Digit.f d a = some (inB a 48 57) := by
 obtain ⟨d, rfl, _⟩ := dep hd
 rw [spec_l2Digit.t_eq]
 dsimp only [spec_l2Digit.m]
 rw [wrap_id (by omega) (by omega), spec_l1In.sp (by omega)]; rfl
theorem impl_nameOk.sp {d : Nat} (hd : 2 ≤ d) {s : ByteArray} (hs : s.size ≤ 140737488351232) : impl_nameOk.f d s = some (nameM s.size 0 (bytesOf s)) := by
 obtain ⟨d, rfl, _⟩ := dep hd
 rw [impl_nameOk.t_eq]
 dsimp only [impl_nameOk.m]
 have hl := bytesOf_length s
 refine Tells.eq (loopL (impl_nameOk.S0 d) (bytesOf s) (fun i => (s, i)) (fun i r => nameM s.size i r) (by omega) (fun L => ?_) fun L i hi ih => ?_)
 ·dsimp only [impl_nameOk.S0, impl_nameOk.s0]
  exact tn (by omega) (tc (impl_in.sp (by omega) _ _ _) (tl rfl))
 ·dsimp only [impl_nameOk.S0, impl_nameOk.s0]
  refine tp (by omega) (ti (by omega) ?_)
  rw [get_byte hi, wrap_succ (by omega)]
  refine tc (impl_isLetter.sp (by omega) _) ?_
  rw [nameM]
  by_cases c1 : inB (bytesOf s)[i] 97 122 = true
  ·rw [if_pos c1]; exact tf (by rw [c1]; rfl) ih
  ·rw [if_neg c1]
   refine tt (by simp [c1]) ?_
   by_cases c2 : i = 0
   ·rw [if_pos c2]; exact tt (by simp [c2]) (tl rfl)
   ·rw [if_neg c2]
    refine tf (by simp; omega) (ti (by omega) (tc (impl_isDigit.sp (by omega) _) ?_))
    by_cases c3 : inB (bytesOf s)[i] 48 57 = true
    ·rw [if_pos c3]; exact tf (by rw [c3]; rfl) ih
    ·rw [if_neg c3]; exact tt (by simp [c3]) (tl rfl)
theorem spec_l8Name.sp {d : Nat} (hd : 3 ≤ d) {s : ByteArray} (hs : s.size ≤ 140737488351232) : spec_l8Name.f d s = some (nameM s.size 0 (bytesOf s)) := by
 obtain ⟨d, rfl, _⟩ := dep hd
 rw [spec_l8Name.t_eq]
 dsimp only [spec_l8Name.m]
 have hl := bytesOf_length s
 refine Tells.eq (loopL (spec_l8Name.S0 d) (bytesOf s) (fun i => (s, i)) (fun i r => nameM s.size i r) (by omega) (fun L => ?_) fun L i hi ih => ?_)
 ·dsimp only [spec_l8Name.S0, spec_l8Name.s0]
  exact tn (by omega) (tc (spec_l1In.sp (by omega) _ _ _) (tl rfl))
 ·dsimp only [spec_l8Name.S0, spec_l8Name.s0]
  refine tp (by omega) (ti (by omega) ?_)
  have hb := byte_in hi
  rw [get_byte hi, wrap_succ (by omega)]
  refine tc (spec_l8Small.sp (by omega) hb) ?_
  rw [nameM]
  by_cases c1 : inB (bytesOf s)[i] 97 122 = true
  ·rw [if_pos c1]; exact tf (by rw [c1]; rfl) ih
  ·rw [if_neg c1]
   refine tt (by simp [c1]) ?_
   by_cases c2 : i = 0
   ·rw [if_pos c2]; exact tt (by simp [c2]) (tl rfl)
   ·rw [if_neg c2]
    refine tf (by simp; omega) (ti (by omega) (tc (spec_l2Digit.sp (by omega) hb) ?_))
    by_cases c3 : inB (bytesOf s)[i] 48 57 = true
    ·rw [if_pos c3]; exact tf (by rw [c3]; rfl) ih
    ·rw [if_neg c3]; exact tt (by simp [c3]) (tl rfl)
theorem spec_l9Has.sp {d : Nat} (hd : 1 ≤ d) {l : List ByteArray} (hl : l.length ≤ 140737488351232) (s : ByteArray) : spec_l9Has.f d (l, s) = some (l.any fun w => isT w s) := by
 obtain ⟨d, rfl, _⟩ := dep hd
 rw [spec_l9Has.t_eq]
 dsimp only [spec_l9Has.m]
 have := loopStop (spec_l9Has.S0 d) l (fun i => (l, s, i)) (fun w => isT w s) true false (by omega) (fun L => ?_) fun L i hi e ih => ?_
 ·refine Tells.eq (this.mono fun r hr => ?_)
  rw [hr]; cases (l.any fun w => isT w s) <;> rfl
 ·dsimp only [spec_l9Has.S0, spec_l9Has.s0]
  exact tn (by omega) (tl rfl)
 ·dsimp only [spec_l9Has.S0, spec_l9Has.s0]
  refine tp (by omega) (ti hi ?_)
  rw [getD_in hi, wrap_succ (by omega)]
  exact tbif (fun c => tl (by rw [show isT l[i] s = true from c]; rfl)) fun c => by rw [show isT l[i] s = false from c]; exact ih
theorem spec_l9Word.sp {d : Nat} (hd : 4 ≤ d) {s : ByteArray} (hs : s.size ≤ 140737488351232) : spec_l9Word.f d s = some (freeM s) := by
 obtain ⟨d, rfl, _⟩ := dep hd
 rw [spec_l9Word.t_eq]
 dsimp only [spec_l9Word.m]
 refine Tells.eq (tc (spec_l8Name.sp (by omega) hs) (tbif (fun c => tc (spec_l9Has.sp (l := wordsL) (by omega) (by decide) s) (tl ?_)) fun c => tl ?_))
 ·unfold freeM; rw [c]; rfl
 ·unfold freeM; rw [c]; rfl
theorem loopAnd {A β : Type} (s : (A → Option Bool) → A → Option Bool) (l : List β) (mk : Int → A) (p : β → Bool) (R0 : Bool) (hl : l.length ≤ 4611686018427387904)
  (base : ∀ L, Tells (s L (mk (l.length : Int))) (· = R0))
  (step : ∀ L i (hi : i < l.length) e, Tells (L (mk ((i + 1 : Nat) : Int))) (· = e) → Tells (s L (mk (i : Int))) (· = (p l[i] && e))) :
  Tells (iter s rnds (mk (0 : Int))) (· = (l.all p && R0)) := by
 refine loopL s l mk (fun _ r => r.all p && R0) hl base fun L i hi ih => ?_
 refine (step L i hi _ ih).mono fun r hr => ?_
 rw [hr, List.all_cons, Bool.and_assoc]
theorem spec_l9Names.sp {d : Nat} (hd : 5 ≤ d) {x : Df} (h : dfFit 140737488351232 x) : spec_l9Names.f d (x.1, x.2.1, x.2.2.1, x.2.2.2) = some (namesM x) := by
 obtain ⟨d, rfl, _⟩ := dep hd
 rw [spec_l9Names.t_eq]
 dsimp only [spec_l9Names.m]
 obtain ⟨h0, ⟨h1, h2⟩, h3, h4, h5⟩ := h
 refine Tells.eq (loopAnd (spec_l9Names.S0 d) x.2.1 (fun i => (i, x.1, x.2.1, x.2.2.1, x.2.2.2)) (fun c => freeM c.1) _ (by omega) (fun L => ?_) fun L i hi e ih => ?_)
 ·dsimp only [spec_l9Names.S0, spec_l9Names.s0]
  refine tn (by omega) ?_
  refine loopAnd (spec_l9Names.S2 d) x.2.2.2 (fun i => (i, x.1, x.2.1, x.2.2.1, x.2.2.2)) (fun c => freeM c.1) _ (by omega) (fun L => ?_) fun L i hi e ih => ?_
  ·dsimp only [spec_l9Names.S2, spec_l9Names.s2]
   exact tn (by omega) (tc (spec_l9Word.sp (by omega) h0) (tl rfl))
  ·dsimp only [spec_l9Names.S2, spec_l9Names.s2]
   refine tp (by omega) (ti hi ?_)
   rw [getD_in hi, wrap_succ (by omega)]
   refine tc (spec_l9Word.sp (by omega) (h5 _ (List.getElem_mem hi)).1) ?_
   cases freeM x.2.2.2[i].1
   ·exact tt rfl (tl rfl)
   ·exact tf rfl ih
 ·dsimp only [spec_l9Names.S0, spec_l9Names.s0]
  refine tp (by omega) (ti hi ?_)
  rw [getD_in hi, wrap_succ (by omega)]
  refine tc (spec_l9Word.sp (by omega) (h2 _ (List.getElem_mem hi))) ?_
  cases freeM x.2.1[i].1
  ·exact tt rfl (tl rfl)
  ·exact tf rfl ih
theorem spec_l9Types.sp {d : Nat} (hd : 2 ≤ d) {x : Df} (h : dfFit 140737488351232 x) : spec_l9Types.f d (x.1, x.2.1, x.2.2.1, x.2.2.2) = some (typesM x.2.1) := by
 obtain ⟨d, rfl, _⟩ := dep hd
 rw [spec_l9Types.t_eq]
 dsimp only [spec_l9Types.m]
 have h1 := h.2.1.1
 refine Tells.eq (loopAnd (spec_l9Types.S0 d) x.2.1 (fun i => (i, x.1, x.2.1, x.2.2.1, x.2.2.2)) (fun c => inB c.2.1 1 4) _ (by omega) (fun L => ?_) fun L i hi e ih => ?_)
 ·dsimp only [spec_l9Types.S0, spec_l9Types.s0]
  exact tn (by omega) (tc (spec_l1In.sp (by omega) _ _ _) (tl rfl))
 ·dsimp only [spec_l9Types.S0, spec_l9Types.s0]
  refine tp (by omega) (ti hi ?_)
  rw [getD_in hi, wrap_succ (by omega)]
  refine tc (spec_l1In.sp (by omega) _ _ _) ?_
  cases inB x.2.1[i].2.1 1 4
  ·exact tt rfl (tl rfl)
  ·exact tf rfl ih
def firstI (s : ByteArray) : Nat → List Col → Int
 | _, [] => -1
 | n, x :: r => bif isT x.1 s then (n : Int) else firstI s (n + 1) r
theorem spec_l9Col.sp {d : Nat} (hd : 1 ≤ d) {x : Df} (h : x.2.1.length ≤ 140737488351232) (s : ByteArray) : spec_l9Col.f d (x.1, x.2.1, x.2.2.1, x.2.2.2, s) = some (firstI s 0 x.2.1) := by
 obtain ⟨d, rfl, _⟩ := dep hd
 rw [spec_l9Col.t_eq]
 dsimp only [spec_l9Col.m]
 refine Tells.eq (loopL (spec_l9Col.S0 d) x.2.1 (fun i => (s, i, x.1, x.2.1, x.2.2.1, x.2.2.2)) (fun i r => firstI s i r) (by omega) (fun L => ?_) fun L i hi ih => ?_)
 ·dsimp only [spec_l9Col.S0, spec_l9Col.s0]
  exact tn (by omega) (tl rfl)
 ·dsimp only [spec_l9Col.S0, spec_l9Col.s0]
  refine tp (by omega) (ti hi ?_)
  rw [getD_in hi, wrap_succ (by omega), firstI]
  exact tbif (fun c => tl (by rw [show isT x.2.1[i].1 s = true from c]; rfl)) fun c => by rw [show isT x.2.1[i].1 s = false from c]; exact ih
theorem firstI_app (s : ByteArray) (x : Col) (r : List Col) (hx : isT x.1 s = true) : ∀ (p : List Col) (n : Nat), (p.any (fun y => isT y.1 s) = true → firstI s n (p ++ x :: r) < (n + p.length : Nat)) ∧ (p.any (fun y => isT y.1 s) = false → firstI s n (p ++ x :: r) = (n + p.length : Nat))
 | [], n => ⟨fun h => by simp at h, fun _ => by simp [firstI, hx]⟩
 | y :: p, n => by
  have ih := firstI_app s x r hx p (n + 1)
  rw [List.cons_append, firstI, List.any_cons, List.length_cons]
  cases c : isT y.1 s
  ·rw [Bool.false_or]
   exact ⟨fun h => by have := ih.1 h; simp only [cond_false]; omega, fun h => by have := ih.2 h; simp only [cond_false]; omega⟩
  ·exact ⟨fun _ => by simp only [cond_true]; omega, fun h => by simp at h⟩
theorem isT_self (a : ByteArray) : isT a a = true := isT_iff.2 rfl
theorem take_succ' {β : Type} {l : List β} {i : Nat} (hi : i < l.length) : l.take (i + 1) = l.take i ++ [l[i]] := by
 rw [List.take_add_one, List.getElem?_eq_getElem hi]; rfl
theorem loopAhead {A R β : Type} (s : (A → Option R) → A → Option R) (l : List β) (n : Nat) (hn : n ≤ l.length) (mk : Int → A) (p : β → Bool) (v R0 : R) (hl : l.length ≤ 4611686018427387904)
  (base : ∀ L, Tells (s L (mk (n : Int))) (· = R0))
  (step : ∀ L i (hi : i < n) e, Tells (L (mk ((i + 1 : Nat) : Int))) (· = e) → Tells (s L (mk (i : Int))) (· = bif p l[i] then v else e)) :
  Tells (iter s rnds (mk (0 : Int))) (· = bif (l.take n).any p then v else R0) := by
 have hlen : (l.take n).length = n := by rw [List.length_take]; omega
 refine loopStop s (l.take n) mk p v R0 (by omega) (fun L => by rw [hlen]; exact base L) fun L i hi e ih => ?_
 have hi' : i < n := by omega
 have := step L i hi' e ih
 rwa [show (l.take n)[i] = l[i] by simp]
theorem spec_l9Once.sp {d : Nat} (hd : 2 ≤ d) {x : Df} (h : dfFit 140737488351232 x) : spec_l9Once.f d (x.1, x.2.1, x.2.2.1, x.2.2.2) = some (onceM x) := by
 obtain ⟨d, rfl, _⟩ := dep hd
 rw [spec_l9Once.t_eq]
 dsimp only [spec_l9Once.m]
 have h1 := h.2.1.1
 have h4 := h.2.2.2.1
 have two : Tells (iter (spec_l9Once.S2 d) rnds ((0 : Int), x.1, x.2.1, x.2.2.1, x.2.2.2)) (· = onceR [] (x.2.2.2.map (·.1))) := by
  refine loopL (spec_l9Once.S2 d) x.2.2.2 (fun i => (i, x.1, x.2.1, x.2.2.1, x.2.2.2)) (fun i (r : List Ix) => onceR ((x.2.2.2.take i).map (·.1)) (r.map (·.1))) (by omega) (fun L => ?_) fun L i hi ih => ?_
  ·dsimp only [spec_l9Once.S2, spec_l9Once.s2]
   exact tn (by omega) (tl rfl)
  ·dsimp only [spec_l9Once.S2, spec_l9Once.s2]
   refine tp (by omega) ?_
   have := loopAhead (spec_l9Once.S4 d L) x.2.2.2 i (by omega) (fun j => ((i : Int), j, x.1, x.2.1, x.2.2.1, x.2.2.2)) (fun y => isT y.1 x.2.2.2[i].1) false (onceR ((x.2.2.2.take (i + 1)).map fun c => c.1) ((x.2.2.2.drop (i + 1)).map fun c => c.1)) (by omega) (fun L4 => ?_) fun L4 j hj e ih2 => ?_
   ·refine this.mono fun r hr => ?_
    rw [hr, List.map_cons, onceR, List.any_map, take_succ' hi, List.map_append]
    show (bif (x.2.2.2.take i).any (fun y => isT y.1 x.2.2.2[i].1) then false else _) = (!((x.2.2.2.take i).any ((fun y => isT y x.2.2.2[i].1) ∘ (·.1))) && _)
    rw [show ((fun y => isT y x.2.2.2[i].1) ∘ (·.1) : Ix → Bool) = fun y => isT y.1 x.2.2.2[i].1 from rfl]
    cases (x.2.2.2.take i).any fun y => isT y.1 x.2.2.2[i].1
    ·exact (rfl : onceR ((x.2.2.2.take i).map (·.1) ++ [x.2.2.2[i].1]) _ = _)
    ·rfl
   ·dsimp only [spec_l9Once.S4, spec_l9Once.s4]
    refine tn (by omega) ?_
    rw [wrap_succ (by omega)]
    exact ih
   ·dsimp only [spec_l9Once.S4, spec_l9Once.s4]
    refine tp (by omega) (ti (by omega) (ti hi ?_))
    rw [getD_in hi, getD_in (show j < x.2.2.2.length by omega), wrap_succ (by omega)]
    exact tbif (fun c => tl (by rw [show isT _ _ = true from c]; rfl)) fun c => by rw [show isT _ _ = false from c]; exact ih2
 suffices g : Tells (iter (spec_l9Once.S0 d) rnds ((0 : Int), x.1, x.2.1, x.2.2.1, x.2.2.2)) (· = (onceR [] (x.2.1.map fun c => c.1) && onceR [] (x.2.2.2.map fun c => c.1))) from g.eq
 refine (loopL (spec_l9Once.S0 d) x.2.1 (fun i => (i, x.1, x.2.1, x.2.2.1, x.2.2.2)) (fun i (r : List Col) => onceR ((x.2.1.take i).map fun c => c.1) (r.map fun c => c.1) && onceR [] (x.2.2.2.map fun c => c.1)) (by omega) (fun L => ?_) fun L i hi ih => ?_)
 ·dsimp only [spec_l9Once.S0, spec_l9Once.s0]
  exact tn (by omega) (two.mono fun r hr => by rw [hr]; rfl)
 ·dsimp only [spec_l9Once.S0, spec_l9Once.s0]
  refine tp (by omega) (ti hi ?_)
  rw [getD_in hi, wrap_succ (by omega)]
  refine tc (spec_l9Col.sp (by omega) h1 _) ?_
  have tk : (x.2.1.take i).length = i := by rw [List.length_take]; omega
  have f := firstI_app x.2.1[i].1 x.2.1[i] (x.2.1.drop (i + 1)) (isT_self _) (x.2.1.take i) 0
  rw [← drop_at hi, List.take_append_drop, tk, Nat.zero_add] at f
  rw [List.map_cons, onceR, List.any_map]
  rw [take_succ' hi, List.map_append] at ih
  rw [show ((fun y => isT y x.2.1[i].1) ∘ (·.1) : Col → Bool) = fun y => isT y.1 x.2.1[i].1 from rfl]
  cases c : (x.2.1.take i).any fun y => isT y.1 x.2.1[i].1
  ·exact tf (by rw [f.2 c]; simp) ih
  ·exact tt (by have := f.1 c; simp; omega) (tl rfl)
theorem impl_twice.sp {d : Nat} (hd : 1 ≤ d) {x : Df} (h : dfFit 140737488351232 x) : impl_twice.f d (x.1, x.2.1, x.2.2.1, x.2.2.2) = some (!(onceM x)) := by
 obtain ⟨d, rfl, _⟩ := dep hd
 rw [impl_twice.t_eq]
 dsimp only [impl_twice.m]
 have h1 := h.2.1.1
 have h4 := h.2.2.2.1
 have two : Tells (iter (impl_twice.S4 d) rnds (x.2.2.2, (x.2.2.2.length : Int), (0 : Int), x.1, x.2.1, x.2.2.1, x.2.2.2)) (· = !(onceR [] (x.2.2.2.map (·.1)))) := by
  refine loopL (impl_twice.S4 d) x.2.2.2 (fun i => (x.2.2.2, (x.2.2.2.length : Int), i, x.1, x.2.1, x.2.2.1, x.2.2.2)) (fun i (r : List Ix) => !(onceR ((x.2.2.2.take i).map (·.1)) (r.map (·.1)))) (by omega) (fun L => ?_) fun L i hi ih => ?_
  ·dsimp only [impl_twice.S4, impl_twice.s4]
   exact tn (by omega) (tl rfl)
  ·dsimp only [impl_twice.S4, impl_twice.s4]
   have tk : (x.2.2.2.take i).length = i := by rw [List.length_take]; omega
   refine tp (by omega) (ti hi (tt (by simp; omega) ?_))
   rw [getD_in hi, Int.toNat_natCast, Int.toNat_zero, List.drop_zero]
   have := loopStop (impl_twice.S6 d L) (x.2.2.2.take i) (fun j => (x.2.2.2, (x.2.2.2.length : Int), (i : Int), x.2.2.2.take i, ((x.2.2.2.take i).length : Int), j, x.1, x.2.1, x.2.2.1, x.2.2.2, x.2.2.2[i].1, x.2.2.2[i].2.1, x.2.2.2[i].2.2)) (fun y => isT y.1 x.2.2.2[i].1) true (!(onceR ((x.2.2.2.take (i + 1)).map fun c => c.1) ((x.2.2.2.drop (i + 1)).map fun c => c.1))) (by omega) (fun L6 => ?_) fun L6 j hj e ih2 => ?_
   ·refine this.mono fun r hr => ?_
    rw [hr, List.map_cons, onceR, List.any_map, take_succ' hi, List.map_append]
    rw [show ((fun y => isT y x.2.2.2[i].1) ∘ (·.1) : Ix → Bool) = fun y => isT y.1 x.2.2.2[i].1 from rfl]
    cases (x.2.2.2.take i).any fun y => isT y.1 x.2.2.2[i].1
    ·exact (rfl : (!onceR ((x.2.2.2.take i).map (·.1) ++ [x.2.2.2[i].1]) _) = _)
    ·rfl
   ·dsimp only [impl_twice.S6, impl_twice.s6]
    refine tn (by omega) ?_
    rw [wrap_succ (by omega)]
    exact ih
   ·dsimp only [impl_twice.S6, impl_twice.s6]
    refine tp (by omega) (ti hj ?_)
    rw [getD_in hj, wrap_succ (by omega)]
    exact tbif (fun c => tl (by rw [show isT _ _ = true from c]; rfl)) fun c => by rw [show isT _ _ = false from c]; exact ih2
 suffices g : Tells (iter (impl_twice.S0 d) rnds (x.2.1, (x.2.1.length : Int), (0 : Int), x.1, x.2.1, x.2.2.1, x.2.2.2)) (· = !(onceR [] (x.2.1.map fun c => c.1) && onceR [] (x.2.2.2.map fun c => c.1))) from g.eq
 refine (loopL (impl_twice.S0 d) x.2.1 (fun i => (x.2.1, (x.2.1.length : Int), i, x.1, x.2.1, x.2.2.1, x.2.2.2)) (fun i (r : List Col) => !(onceR ((x.2.1.take i).map fun c => c.1) (r.map fun c => c.1) && onceR [] (x.2.2.2.map fun c => c.1))) (by omega) (fun L => ?_) fun L i hi ih => ?_)
 ·dsimp only [impl_twice.S0, impl_twice.s0]
  exact tn (by omega) (two.mono fun r hr => by rw [hr]; rfl)
 ·dsimp only [impl_twice.S0, impl_twice.s0]
  have tk : (x.2.1.take i).length = i := by rw [List.length_take]; omega
  refine tp (by omega) (ti hi (tt (by simp; omega) ?_))
  rw [getD_in hi, Int.toNat_natCast, Int.toNat_zero, List.drop_zero]
  have := loopStop (impl_twice.S2 d L) (x.2.1.take i) (fun j => (x.2.1, (x.2.1.length : Int), (i : Int), x.2.1.take i, ((x.2.1.take i).length : Int), j, x.1, x.2.1, x.2.2.1, x.2.2.2, x.2.1[i].1, x.2.1[i].2.1, x.2.1[i].2.2)) (fun y => isT y.1 x.2.1[i].1) true (!(onceR ((x.2.1.take (i + 1)).map fun c => c.1) ((x.2.1.drop (i + 1)).map fun c => c.1) && onceR [] (x.2.2.2.map fun c => c.1))) (by omega) (fun L2 => ?_) fun L2 j hj e ih2 => ?_
  ·refine this.mono fun r hr => ?_
   rw [hr, List.map_cons, onceR, List.any_map, take_succ' hi, List.map_append]
   rw [show ((fun y => isT y x.2.1[i].1) ∘ (·.1) : Col → Bool) = fun y => isT y.1 x.2.1[i].1 from rfl]
   cases (x.2.1.take i).any fun y => isT y.1 x.2.1[i].1
   ·exact (rfl : (!(onceR ((x.2.1.take i).map (·.1) ++ [x.2.1[i].1]) _ && _)) = _)
   ·rfl
  ·dsimp only [impl_twice.S2, impl_twice.s2]
   refine tn (by omega) ?_
   rw [wrap_succ (by omega)]
   exact ih
  ·dsimp only [impl_twice.S2, impl_twice.s2]
   refine tp (by omega) (ti hj ?_)
   rw [getD_in hj, wrap_succ (by omega)]
   exact tbif (fun c => tl (by rw [show isT _ _ = true from c]; rfl)) fun c => by rw [show isT _ _ = false from c]; exact ih2
theorem words_split : splitL (⟨#[116, 97, 98, 108, 101, 32, 112, 114, 105, 109, 97, 114, 121, 32, 117, 110, 105, 113, 117, 101, 32, 105, 110, 100, 101, 120, 32, 110, 117, 108, 108, 32, 100, 101, 115, 99, 32, 105, 110, 116, 32, 110, 117, 109, 32, 116, 101, 120, 116, 32, 98, 111, 111, 108]⟩ : ByteArray) = wordsL := by kernel_rfl
theorem impl_isFree.sp {d : Nat} (hd : 3 ≤ d) {s : ByteArray} (hs : s.size ≤ 140737488351232) : impl_isFree.f d s = some (freeM s) := by
 obtain ⟨d, rfl, _⟩ := dep hd
 rw [impl_isFree.t_eq]
 dsimp only [impl_isFree.m]
 obtain ⟨d, rfl, _⟩ := dep (show 1 + 1 ≤ d by omega)
 rw [strings_Split.t_eq]
 have e : splitLaw ((⟨#[116, 97, 98, 108, 101, 32, 112, 114, 105, 109, 97, 114, 121, 32, 117, 110, 105, 113, 117, 101, 32, 105, 110, 100, 101, 120, 32, 110, 117, 108, 108, 32, 100, 101, 115, 99, 32, 105, 110, 116, 32, 110, 117, 109, 32, 116, 101, 120, 116, 32, 98, 111, 111, 108]⟩ : ByteArray), (⟨#[32]⟩ : ByteArray)) = some wordsL := by
  unfold splitLaw
  rw [if_pos ⟨rfl, by decide⟩, words_split]
 refine Tells.eq (tc e ?_)
 have := loopStop (impl_isFree.S0 (d + 1)) wordsL (fun i => (s, (wordsL.length : Int), i, wordsL)) (fun w => isT w s) false (nameM s.size 0 (bytesOf s)) (by decide) (fun L => ?_) fun L i hi e ih => ?_
 ·refine this.mono fun r hr => ?_
  rw [hr]; unfold freeM; cases (wordsL.any fun w => isT w s) <;> simp
 ·dsimp only [impl_isFree.S0, impl_isFree.s0]
  exact tn (by omega) (tc (impl_nameOk.sp (by omega) hs) (tl rfl))
 ·dsimp only [impl_isFree.S0, impl_isFree.s0]
  have h10 : wordsL.length = 10 := rfl
  refine tp (by omega) (ti hi ?_)
  rw [getD_in hi, wrap_succ (by omega)]
  exact tbif (fun c => tl (by rw [show isT wordsL[i] s = true from c]; rfl)) fun c => by rw [show isT wordsL[i] s = false from c]; exact ih
theorem impl_namesOk.sp {d : Nat} (hd : 4 ≤ d) {x : Df} (h : dfFit 140737488351232 x) : impl_namesOk.f d (x.1, x.2.1, x.2.2.1, x.2.2.2) = some (namesM x) := by
 obtain ⟨d, rfl, _⟩ := dep hd
 rw [impl_namesOk.t_eq]
 dsimp only [impl_namesOk.m]
 obtain ⟨h0, ⟨h1, h2⟩, h3, h4, h5⟩ := h
 refine Tells.eq (loopAnd (impl_namesOk.S0 d) x.2.1 (fun i => (x.2.1, (x.2.1.length : Int), i, x.1, x.2.1, x.2.2.1, x.2.2.2)) (fun c => freeM c.1) _ (by omega) (fun L => ?_) fun L i hi e ih => ?_)
 ·dsimp only [impl_namesOk.S0, impl_namesOk.s0]
  refine tn (by omega) ?_
  refine loopAnd (impl_namesOk.S2 d) x.2.2.2 (fun i => (x.2.2.2, (x.2.2.2.length : Int), i, x.1, x.2.1, x.2.2.1, x.2.2.2)) (fun c => freeM c.1) _ (by omega) (fun L => ?_) fun L i hi e ih => ?_
  ·dsimp only [impl_namesOk.S2, impl_namesOk.s2]
   exact tn (by omega) (tc (impl_isFree.sp (by omega) h0) (tl rfl))
  ·dsimp only [impl_namesOk.S2, impl_namesOk.s2]
   refine tp (by omega) (ti hi ?_)
   rw [getD_in hi, wrap_succ (by omega)]
   refine tc (impl_isFree.sp (by omega) (h5 _ (List.getElem_mem hi)).1) ?_
   cases freeM x.2.2.2[i].1
   ·exact tt rfl (tl rfl)
   ·exact tf rfl ih
 ·dsimp only [impl_namesOk.S0, impl_namesOk.s0]
  refine tp (by omega) (ti hi ?_)
  rw [getD_in hi, wrap_succ (by omega)]
  refine tc (impl_isFree.sp (by omega) (h2 _ (List.getElem_mem hi))) ?_
  cases freeM x.2.1[i].1
  ·exact tt rfl (tl rfl)
  ·exact tf rfl ih
def partsA (n : Int) (q : Nat → By → Bool) (e : Bool) : Nat → List By → Bool
 | _, [] => e
 | i, x :: r => inB x.1 0 (n - 1) && (!(q i x) && partsA n q e (i + 1) r)
theorem partsA_no (n : Int) (q : Nat → By → Bool) : ∀ (r : List By) (i : Nat), partsA n q false i r = false
 | [], _ => rfl
 | x :: r, i => by rw [partsA, partsA_no n q r]; simp
theorem partsA_eq {n : Int} {q : Nat → By → Bool} {l : List By} (h0 : ∀ a r, l = a :: r → q 0 a = false) (h1 : ∀ a b r, l = a :: b :: r → q 1 b = decide (a.1 = b.1)) : partsA n q (inB l.length 1 2) 0 l = partsM n l := by
 cases c : inB l.length 1 2 with
 | false => rw [partsA_no, partsM_not (by rw [c]; simp)]
 | true =>
  have := inB_iff.1 c
  match l, h0, h1, this with
  | [], _, _, h => simp at h
  | [a], h0, _, _ => simp [partsA, partsM, h0 a [] rfl]
  | [a, b], h0, h1, _ => simp [partsA, partsM, h0 a [b] rfl, h1 a b [] rfl]
  | _ :: _ :: _ :: r, _, _, h => simp only [List.length_cons] at h; omega
theorem spec_l9Parts.sp {d : Nat} (hd : 2 ≤ d) {x : Df} (hc : x.2.1.length ≤ 140737488351232) {l : List By} (hl : l.length ≤ 140737488351232) : spec_l9Parts.f d (x.1, x.2.1, x.2.2.1, x.2.2.2, l) = some (partsM x.2.1.length l) := by
 obtain ⟨d, rfl, _⟩ := dep hd
 rw [spec_l9Parts.t_eq]
 dsimp only [spec_l9Parts.m]
 have wr : IntKind.wrap IntKind.i64 ((x.2.1.length : Int) - 1) = (x.2.1.length : Int) - 1 := wrap_id (by omega) (by omega)
 have one : ∀ L i (hi : i < l.length) e, Tells (L (l, ((i + 1 : Nat) : Int), x.1, x.2.1, x.2.2.1, x.2.2.2)) (· = e) → Tells (spec_l9Parts.S0 d L (l, (i : Int), x.1, x.2.1, x.2.2.1, x.2.2.2)) (· = (inB l[i].1 0 ((x.2.1.length : Int) - 1) && (!(decide (0 < i) && decide (l[0].1 = l[i].1)) && e))) := by
  intro L i hi e ih
  dsimp only [spec_l9Parts.S0, spec_l9Parts.s0]
  refine tp (by omega) (ti hi ?_)
  rw [getD_in hi, wrap_succ (by omega), wr]
  refine tc (spec_l1In.sp (by omega) _ _ _) ?_
  cases inB l[i].1 0 ((x.2.1.length : Int) - 1)
  ·exact tt rfl (tl rfl)
  refine tf rfl ?_
  by_cases c : i = 0
  ·subst c
   exact tn (by omega) (ih.mono fun r hr => by rw [hr]; rfl)
  ·refine tp (by omega) (tt (by simp; omega) (ti hi ?_))
   have h0 : 0 < l.length := by omega
   have e0 : List.getD l (Int.toNat (0 : Int)) ((0 : Int), false) = l[0] := getD_in h0
   rw [e0]
   refine tbif (fun c2 => tl ?_) fun c2 => ih.mono fun r hr => ?_
   ·have c2 := beq_iff_eq.1 c2
    rw [decide_eq_true (show 0 < i by omega), decide_eq_true c2]; rfl
   ·have c2 := beq_eq_false_iff_ne.1 c2
    rw [hr, decide_eq_false c2]; simp
 have last : ∀ L, Tells (spec_l9Parts.S0 d L (l, (l.length : Int), x.1, x.2.1, x.2.2.1, x.2.2.2)) (· = inB l.length 1 2) := fun L => by
  dsimp only [spec_l9Parts.S0, spec_l9Parts.s0]
  exact tn (by omega) (tc (spec_l1In.sp (by omega) _ _ _) (tl rfl))
 have g := loopL (spec_l9Parts.S0 d) l (fun i => (l, i, x.1, x.2.1, x.2.2.1, x.2.2.2)) (fun i r => partsA x.2.1.length (fun i y => decide (0 < i) && decide ((l.head?.map (·.1)) = some y.1)) (inB l.length 1 2) i r) (by omega) (fun L => (last L).mono fun r hr => hr) fun L i hi ih => (one L i hi _ ih).mono fun r hr => by
  rw [hr, partsA]
  have : l.head? = some l[0] := by rw [List.head?_eq_getElem?, List.getElem?_eq_getElem (by omega)]
  rw [this]
  simp
 refine Tells.eq (g.mono fun r hr => ?_)
 rw [hr]
 exact partsA_eq (fun a r h => by simp) fun a b r h => by rw [h]; simp
theorem impl_partsOk.sp {d : Nat} (hd : 2 ≤ d) {x : Df} (hc : x.2.1.length ≤ 140737488351232) {l : List By} (hl : l.length ≤ 140737488351232) : impl_partsOk.f d (x.1, x.2.1, x.2.2.1, x.2.2.2, l) = some (partsM x.2.1.length l) := by
 obtain ⟨d, rfl, _⟩ := dep hd
 rw [impl_partsOk.t_eq]
 dsimp only [impl_partsOk.m]
 have wr : IntKind.wrap IntKind.i64 ((x.2.1.length : Int) - 1) = (x.2.1.length : Int) - 1 := wrap_id (by omega) (by omega)
 have g := loopL (impl_partsOk.S0 d) l (fun i => (l, l, (l.length : Int), i, x.1, x.2.1, x.2.2.1, x.2.2.2)) (fun i r => partsA x.2.1.length (fun i y => (l.take i).any fun z => z.1 == y.1) (inB l.length 1 2) i r) (by omega) (fun L => ?_) fun L i hi ih => ?_
 ·refine Tells.eq (g.mono fun r hr => ?_)
  rw [hr]
  exact partsA_eq (fun a r h => by simp) fun a b r h => by rw [h]; simp [Bool.beq_eq_decide_eq]
 ·dsimp only [impl_partsOk.S0, impl_partsOk.s0]
  exact tn (by omega) (tc (impl_in.sp (by omega) _ _ _) (tl rfl))
 ·dsimp only [impl_partsOk.S0, impl_partsOk.s0]
  have tk : (l.take i).length = i := by rw [List.length_take]; omega
  refine tp (by omega) (ti hi ?_)
  rw [getD_in hi, wr, Int.toNat_natCast, Int.toNat_zero, List.drop_zero, partsA]
  refine tc (impl_in.sp (by omega) _ _ _) ?_
  cases inB l[i].1 0 ((x.2.1.length : Int) - 1)
  ·exact tt rfl (tl rfl)
  refine tf rfl (tt (by simp; omega) ?_)
  have := loopStop (impl_partsOk.S2 d L) (l.take i) (fun j => (l, l, (l.length : Int), (i : Int), l.take i, ((l.take i).length : Int), j, x.1, x.2.1, x.2.2.1, x.2.2.2, l[i].1, l[i].2)) (fun z => z.1 == l[i].1) false (partsA x.2.1.length (fun i y => (l.take i).any fun z => z.1 == y.1) (inB l.length 1 2) (i + 1) (l.drop (i + 1))) (by omega) (fun L2 => ?_) fun L2 j hj e ih2 => ?_
  ·refine this.mono fun r hr => ?_
   rw [hr]
   cases (l.take i).any fun z => z.1 == l[i].1 <;> simp
  ·dsimp only [impl_partsOk.S2, impl_partsOk.s2]
   refine tn (by omega) ?_
   rw [wrap_succ (by omega)]
   exact ih
  ·dsimp only [impl_partsOk.S2, impl_partsOk.s2]
   refine tp (by omega) (ti hj ?_)
   rw [getD_in hj, wrap_succ (by omega)]
   exact tbif (fun c => tl (by rw [c]; rfl)) fun c => by rw [c]; exact ih2
theorem spec_l9AllParts.sp {d : Nat} (hd : 3 ≤ d) {x : Df} (h : dfFit 140737488351232 x) : spec_l9AllParts.f d (x.1, x.2.1, x.2.2.1, x.2.2.2) = some (allPartsM x) := by
 obtain ⟨d, rfl, _⟩ := dep hd
 rw [spec_l9AllParts.t_eq]
 dsimp only [spec_l9AllParts.m]
 obtain ⟨h0, ⟨h1, h2⟩, h3, h4, h5⟩ := h
 refine Tells.eq (loopAnd (spec_l9AllParts.S0 d) x.2.2.2 (fun i => (i, x.1, x.2.1, x.2.2.1, x.2.2.2)) (fun c => partsM x.2.1.length c.2.2) _ (by omega) (fun L => ?_) fun L i hi e ih => ?_)
 ·dsimp only [spec_l9AllParts.S0, spec_l9AllParts.s0]
  exact tn (by omega) (tc (spec_l9Parts.sp (by omega) h1 h3) (tl rfl))
 ·dsimp only [spec_l9AllParts.S0, spec_l9AllParts.s0]
  refine tp (by omega) (ti hi ?_)
  rw [getD_in hi, wrap_succ (by omega)]
  refine tc (spec_l9Parts.sp (by omega) h1 (h5 _ (List.getElem_mem hi)).2) ?_
  cases partsM x.2.1.length x.2.2.2[i].2.2
  ·exact tt rfl (tl rfl)
  ·exact tf rfl ih
theorem spec_CheckDef.sp {d : Nat} (hd : 6 ≤ d) {x : Df} (h : dfFit 140737488351232 x) : spec_CheckDef.f d (x.1, x.2.1, x.2.2.1, x.2.2.2) = some (checkM x) := by
 obtain ⟨d, rfl, _⟩ := dep hd
 rw [spec_CheckDef.t_eq]
 dsimp only [spec_CheckDef.m]
 unfold checkM
 refine Tells.eq (tc (spec_l9Names.sp (by omega) h) ?_)
 cases namesM x
 ·exact tt rfl (tl rfl)
 refine tf rfl (tc (spec_l9Types.sp (by omega) h) ?_)
 cases typesM x.2.1
 ·exact tt rfl (tl rfl)
 refine tf rfl (tc (spec_l9Once.sp (by omega) h) ?_)
 cases onceM x
 ·exact tt rfl (tl rfl)
 refine tf rfl (tif (fun c => tl (by rw [decide_eq_true c]; rfl)) fun c => ?_)
 rw [decide_eq_false c]
 refine tc (spec_l9AllParts.sp (by omega) h) ?_
 cases c2 : allPartsM x
 ·exact tt rfl (tl rfl)
 refine tf rfl ?_
 have pin := partsM_in (allParts_of c2).1
 have h3 := h.2.2.1
 refine loopStop (spec_CheckDef.S1 d) x.2.2.1 (fun i => (i, x.1, x.2.1, x.2.2.1, x.2.2.2)) (nullAt x.2.1) (4 : Int) (0 : Int) (by omega) (fun L => ?_) fun L i hi e ih => ?_
 ·dsimp only [spec_CheckDef.S1, spec_CheckDef.s1]
  exact tn (by omega) (tl rfl)
 ·dsimp only [spec_CheckDef.S1, spec_CheckDef.s1]
  refine tp (by omega) (ti hi ?_)
  rw [getD_in hi, wrap_succ (by omega)]
  have q := pin _ (List.getElem_mem hi)
  refine tt (by rw [decide_eq_true q.1, decide_eq_true q.2]; rfl) (tbif (fun c => tl ?_) fun c => ?_)
  ·rw [show nullAt x.2.1 x.2.2.1[i] = true from c]; rfl
  ·rw [show nullAt x.2.1 x.2.2.1[i] = false from c]; exact ih
theorem impl_CheckDef.sp {d : Nat} (hd : 5 ≤ d) {x : Df} (h : dfFit 140737488351232 x) : impl_CheckDef.f d (x.1, x.2.1, x.2.2.1, x.2.2.2) = some (checkM x) := by
 obtain ⟨d, rfl, _⟩ := dep hd
 rw [impl_CheckDef.t_eq]
 dsimp only [impl_CheckDef.m]
 have ⟨h0, ⟨h1, h2⟩, h3, h4, h5⟩ := h
 have e4 : partsM x.2.1.length x.2.2.1 = true → Tells (iter (impl_CheckDef.S4 d) rnds (x.2.2.1, (x.2.2.1.length : Int), (0 : Int), x.1, x.2.1, x.2.2.1, x.2.2.2)) (· = bif x.2.2.1.any (nullAt x.2.1) then 4 else 0) := fun c2 => by
  have pin := partsM_in c2
  refine loopStop (impl_CheckDef.S4 d) x.2.2.1 (fun i => (x.2.2.1, (x.2.2.1.length : Int), i, x.1, x.2.1, x.2.2.1, x.2.2.2)) (nullAt x.2.1) (4 : Int) (0 : Int) (by omega) (fun L => ?_) fun L i hi e ih => ?_
  ·dsimp only [impl_CheckDef.S4, impl_CheckDef.s4]
   exact tn (by omega) (tl rfl)
  ·dsimp only [impl_CheckDef.S4, impl_CheckDef.s4]
   refine tp (by omega) (ti hi ?_)
   rw [getD_in hi, wrap_succ (by omega)]
   have q := pin _ (List.getElem_mem hi)
   refine tt (by rw [decide_eq_true q.1, decide_eq_true q.2]; rfl) (tbif (fun c => tl ?_) fun c => ?_)
   ·rw [show nullAt x.2.1 x.2.2.1[i] = true from c]; rfl
   ·rw [show nullAt x.2.1 x.2.2.1[i] = false from c]; exact ih
 have e2 : Tells (iter (impl_CheckDef.S2 d) rnds (x.2.2.2, (x.2.2.2.length : Int), (0 : Int), x.1, x.2.1, x.2.2.1, x.2.2.2)) (· = bif allPartsM x then (bif x.2.2.1.any (nullAt x.2.1) then 4 else 0) else 5) := by
  have g := loopStop (impl_CheckDef.S2 d) x.2.2.2 (fun i => (x.2.2.2, (x.2.2.2.length : Int), i, x.1, x.2.1, x.2.2.1, x.2.2.2)) (fun c => !(partsM x.2.1.length c.2.2)) (5 : Int) (bif partsM x.2.1.length x.2.2.1 then (bif x.2.2.1.any (nullAt x.2.1) then 4 else 0) else 5) (by omega) (fun L => ?_) fun L i hi e ih => ?_
  ·refine g.mono fun r hr => ?_
   rw [hr]
   unfold allPartsM
   rw [← List.not_all_eq_any_not]
   cases x.2.2.2.all (fun c => partsM x.2.1.length c.2.2) <;> cases partsM x.2.1.length x.2.2.1 <;> rfl
  ·dsimp only [impl_CheckDef.S2, impl_CheckDef.s2]
   refine tn (by omega) (tc (impl_partsOk.sp (by omega) h1 h3) ?_)
   cases c : partsM x.2.1.length x.2.2.1
   ·exact tt rfl (tl rfl)
   ·exact tf rfl (e4 c)
  ·dsimp only [impl_CheckDef.S2, impl_CheckDef.s2]
   refine tp (by omega) (ti hi ?_)
   rw [getD_in hi, wrap_succ (by omega)]
   refine tc (impl_partsOk.sp (by omega) h1 (h5 _ (List.getElem_mem hi)).2) ?_
   cases partsM x.2.1.length x.2.2.2[i].2.2
   ·exact tt rfl (tl rfl)
   ·exact tf rfl ih
 have e0 : Tells (iter (impl_CheckDef.S0 d) rnds (x.2.1, (x.2.1.length : Int), (0 : Int), x.1, x.2.1, x.2.2.1, x.2.2.2)) (· = bif x.2.1.any (fun c => !(inB c.2.1 1 4)) then 2 else bif onceM x then (bif decide ((x.2.2.2.length : Int) > 2) then 6 else bif allPartsM x then (bif x.2.2.1.any (nullAt x.2.1) then 4 else 0) else 5) else 3) := by
  refine loopStop (impl_CheckDef.S0 d) x.2.1 (fun i => (x.2.1, (x.2.1.length : Int), i, x.1, x.2.1, x.2.2.1, x.2.2.2)) (fun c => !(inB c.2.1 1 4)) (2 : Int) _ (by omega) (fun L => ?_) fun L i hi e ih => ?_
  ·dsimp only [impl_CheckDef.S0, impl_CheckDef.s0]
   refine tn (by omega) (tc (impl_twice.sp (by omega) h) ?_)
   cases onceM x
   ·exact tt rfl (tl rfl)
   ·exact tf rfl (tif (fun c => tl (by rw [decide_eq_true c]; rfl)) fun c => by rw [decide_eq_false c]; exact e2)
  ·dsimp only [impl_CheckDef.S0, impl_CheckDef.s0]
   refine tp (by omega) (ti hi ?_)
   rw [getD_in hi, wrap_succ (by omega)]
   refine tc (impl_in.sp (by omega) _ _ _) ?_
   cases inB x.2.1[i].2.1 1 4
   ·exact tt rfl (tl rfl)
   ·exact tf rfl ih
 unfold checkM
 refine Tells.eq (tc (impl_namesOk.sp (by omega) h) ?_)
 cases namesM x
 ·exact tt rfl (tl rfl)
 refine tf rfl (tc (impl_in.sp (by omega) _ _ _) ?_)
 unfold typesM
 cases inB x.2.1.length 1 6
 ·exact tt rfl (tl (by rw [Bool.and_false]; rfl))
 refine tf rfl (e0.mono fun r hr => ?_)
 rw [hr, ← List.not_all_eq_any_not, Bool.and_true]
 cases x.2.1.all fun c => inB c.2.1 1 4 <;> rfl
def m3 (n : Int) : Bool := Int.tmod n 3 == 0
abbrev w2 : By → Nat := fun _ => 2
theorem tneq {a b : Int} {α : Type} {x y : Option α} {Q : α → Prop} (h1 : a ≠ b → Tells x Q) (h2 : a = b → Tells y Q) : Tells (bif a != b then x else y) Q := by
 by_cases h : a = b
 ·subst h; exact tf (by simp) (h2 rfl)
 ·exact tt (by simp [h]) (h1 h)
theorem teq {a b : Int} {α : Type} {x y : Option α} {Q : α → Prop} (h1 : a = b → Tells x Q) (h2 : a ≠ b → Tells y Q) : Tells (bif a == b then x else y) Q := by
 by_cases h : a = b
 ·subst h; exact tt (by simp) (h1 rfl)
 ·exact tf (by simp [h]) (h2 h)
theorem spec_FirstBad.sp {d : Nat} (hd : 7 ≤ d) {l : List Df} (hl : l.length ≤ 140737488351232) (hx : ∀ x ∈ l, dfFit 140737488351232 x) : spec_FirstBad.f d l = some (firstM l) := by
 obtain ⟨d, rfl, _⟩ := dep hd
 rw [spec_FirstBad.t_eq]
 dsimp only [spec_FirstBad.m]
 suffices g : Tells (iter (spec_FirstBad.S0 d) rnds (l, (0 : Int))) (· = firstR l 0 l) from g.eq
 refine loopL (spec_FirstBad.S0 d) l (fun i => (l, i)) (fun i (r : List Df) => firstR l i r) (by omega) (fun L => ?_) fun L i hi ih => ?_
 ·dsimp only [spec_FirstBad.S0, spec_FirstBad.s0]
  exact tn (by omega) (tl rfl)
 ·dsimp only [spec_FirstBad.S0, spec_FirstBad.s0]
  refine tp (by omega) (ti hi ?_)
  rw [getD_in hi, firstR]
  refine tc (spec_CheckDef.sp (by omega) (hx _ (List.getElem_mem hi))) (tneq (fun c => tl (by rw [decide_eq_false c]; rfl)) fun c => tif (fun c2 => tl ?_) fun c2 => ?_)
  ·rw [decide_eq_false (show ¬ i ≤ 2 by omega), Bool.and_false]; rfl
  rw [decide_eq_true c, decide_eq_true (show i ≤ 2 by omega), decide_eq_false c2]
  refine loopAhead (spec_FirstBad.S2 d L) l i (by omega) (fun j => (l, (i : Int), j, (i : Int), false)) (fun y => isT y.1 l[i].1) (i : Int) _ (by omega) (fun L2 => ?_) fun L2 j hj e ih2 => ?_
  ·dsimp only [spec_FirstBad.S2, spec_FirstBad.s2]
   refine tn (by omega) ?_
   rw [wrap_succ (by omega)]
   exact ih
  ·dsimp only [spec_FirstBad.S2, spec_FirstBad.s2]
   refine tp (by omega) (ti (by omega) (ti hi ?_))
   rw [getD_in hi, getD_in (show j < l.length by omega), wrap_succ (by omega)]
   exact tbif (fun c => tl (by rw [show isT _ _ = true from c]; rfl)) fun c => by rw [show isT _ _ = false from c]; exact ih2
theorem impl_FirstBad.sp {d : Nat} (hd : 6 ≤ d) {l : List Df} (hl : l.length ≤ 140737488351232) (hx : ∀ x ∈ l, dfFit 140737488351232 x) : impl_FirstBad.f d l = some (firstM l) := by
 obtain ⟨d, rfl, _⟩ := dep hd
 rw [impl_FirstBad.t_eq]
 dsimp only [impl_FirstBad.m]
 suffices g : Tells (iter (impl_FirstBad.S0 d) rnds (l, l, (l.length : Int), (0 : Int))) (· = firstR l 0 l) from g.eq
 refine loopL (impl_FirstBad.S0 d) l (fun i => (l, l, (l.length : Int), i)) (fun i (r : List Df) => firstR l i r) (by omega) (fun L => ?_) fun L i hi ih => ?_
 ·dsimp only [impl_FirstBad.S0, impl_FirstBad.s0]
  exact tn (by omega) (tl rfl)
 ·dsimp only [impl_FirstBad.S0, impl_FirstBad.s0]
  have tk : (l.take i).length = i := by rw [List.length_take]; omega
  refine tp (by omega) (ti hi ?_)
  rw [getD_in hi, firstR]
  refine tif (fun c2 => tl ?_) fun c2 => ?_
  ·rw [decide_eq_false (show ¬ i ≤ 2 by omega), Bool.and_false]; rfl
  rw [decide_eq_true (show i ≤ 2 by omega), Bool.and_true]
  refine tc (impl_CheckDef.sp (by omega) (hx _ (List.getElem_mem hi))) (tneq (fun c => tl (by rw [decide_eq_false c]; rfl)) fun c => tt (by simp; omega) ?_)
  rw [decide_eq_true c, Int.toNat_natCast, Int.toNat_zero, List.drop_zero, c]
  refine loopStop (impl_FirstBad.S2 d L) (l.take i) (fun j => (l, (i : Int), l, (l.length : Int), (i : Int), l[i].1, l[i].2.1, l[i].2.2.1, l[i].2.2.2, (0 : Int), ((0 : Int) != 0), l.take i, ((l.take i).length : Int), j, l[i].1, l[i].2.1, l[i].2.2.1, l[i].2.2.2)) (fun y => isT y.1 l[i].1) (i : Int) (firstR l (i + 1) (l.drop (i + 1))) (by omega) (fun L2 => ?_) fun L2 j hj e ih2 => ?_
  ·dsimp only [impl_FirstBad.S2, impl_FirstBad.s2]
   refine tn (by omega) ?_
   rw [wrap_succ (by omega)]
   exact ih
  ·dsimp only [impl_FirstBad.S2, impl_FirstBad.s2]
   refine tp (by omega) (ti hj ?_)
   rw [getD_in hj, wrap_succ (by omega)]
   exact tbif (fun c => tl (by rw [show isT _ _ = true from c]; rfl)) fun c => by rw [show isT _ _ = false from c]; exact ih2
def tabD (n : Nat) (x : Df) : Prop := x.1.size ≤ 100 ∧ (x.2.1.length ≤ n ∧ ∀ c ∈ x.2.1, c.1.size ≤ 100) ∧ x.2.2.1.length ≤ n ∧ (x.2.2.2.length ≤ n ∧ ∀ y ∈ x.2.2.2, y.1.size ≤ 100 ∧ y.2.2.length ≤ n)
theorem tabD.fit {n : Nat} (hn : n ≤ 1000) {x : Df} (h : tabD n x) : dfFit 1048576 x := by
 obtain ⟨h0, ⟨h1, h2⟩, h3, h4, h5⟩ := h
 exact ⟨by omega, ⟨by omega, fun c hc => by have := h2 c hc; omega⟩, by omega, by omega, fun y hy => by have := h5 y hy; omega⟩
theorem tabD.big {n : Nat} (hn : n ≤ 1000) {x : Df} (h : tabD n x) : dfFit 140737488351232 x := (h.fit hn).mono (by decide)
theorem mem_snoc {β : Type} {l : List β} {y : β} {Q : β → Prop} (h : ∀ x ∈ l, Q x) (hy : Q y) : ∀ x ∈ l ++ [y], Q x := by
 intro x hx
 rcases List.mem_append.1 hx with hx | hx
 ·exact h x hx
 ·rw [List.mem_singleton] at hx; rw [hx]; exact hy
theorem spec_l1Str.sp {d : Nat} (hd : 3 ≤ d) {b : List Int} {p x : Int} {l : List ByteArray} (hc : cur b p) (h0 : 0 < l.length) : Tells (spec_l1Str.f d (b, p, x, l)) fun r => r.1 ∈ l ∧ cur b r.2.1 := by
 obtain ⟨d, rfl, _⟩ := dep hd
 rw [spec_l1Str.t_eq]
 dsimp only [spec_l1Str.m]
 refine tb (spec_l1Below.sp (by omega) hc) fun r hr => ?_
 have hlt := hr.2.1 (by omega)
 refine tt (by rw [decide_eq_true hr.1, decide_eq_true hlt]; rfl) (tl ⟨at_mem hr.1 hlt, hr.2.2⟩)
theorem spec_l9Draw2.sp {d : Nat} (hd : 4 ≤ d) {b : List Int} {p x n : Int} (hc : cur b p) (h1 : 1 ≤ n) (h2 : n ≤ 1000) : Tells (spec_l9Draw2.f d (b, p, x, n)) fun r => partsM n r.1 = true ∧ cur b r.2.1 := by
 obtain ⟨d, rfl, _⟩ := dep hd
 rw [spec_l9Draw2.t_eq]
 dsimp only [spec_l9Draw2.m]
 refine tb (spec_l1Below.sp (by omega) hc) fun r1 h1 => tb (spec_l1Once.sp (by omega) h1.2.2) fun r2 h2 => ?_
 have a0 := h1.1
 have a1 := h1.2.1 (by omega)
 have one : ∀ c, partsM n [(r1.1, c)] = true := fun c => inB_iff.2 ⟨a0, by omega⟩
 refine tif (fun c => tb (spec_l1Once.sp (by omega) h2) fun r3 h3 => tbif (fun _ => tp (by omega) (tb (spec_l1Once.sp (by omega) h3) fun r4 h4 => tp (by simp) (tl ⟨?_, h4⟩))) fun _ => tl ⟨one _, h3⟩) fun _ => tl ⟨one _, h2⟩
 show partsM n [(r1.1, r2.1), (Int.tmod (IntKind.wrap IntKind.i64 (r1.1 + 1)) n, r4.1)] = true
 rw [wrap_id (by omega) (by omega), Int.tmod_eq_emod_of_nonneg (by omega)]
 have m0 := Int.emod_nonneg (r1.1 + 1) (show n ≠ 0 by omega)
 have m1 := Int.emod_lt_of_pos (r1.1 + 1) (show 0 < n by omega)
 have ne : r1.1 ≠ (r1.1 + 1) % n := by
  by_cases e : r1.1 + 1 = n
  ·rw [e, Int.emod_self]; omega
  ·rw [Int.emod_eq_of_lt (by omega) (by omega)]; omega
 simp only [partsM, Bool.and_eq_true]
 exact ⟨inB_iff.2 ⟨a0, by omega⟩, inB_iff.2 ⟨m0, by omega⟩, by rw [decide_eq_false ne]; rfl⟩
def nmL : List ByteArray := [(⟨#[97]⟩ : ByteArray), (⟨#[98]⟩ : ByteArray), (⟨#[99]⟩ : ByteArray)]
def nmC : List ByteArray := [(⟨#[105, 100]⟩ : ByteArray), (⟨#[97]⟩ : ByteArray), (⟨#[98]⟩ : ByteArray), (⟨#[99]⟩ : ByteArray)]
def uvL : List ByteArray := [(⟨#[117]⟩ : ByteArray), (⟨#[118]⟩ : ByteArray)]
def colsD (k : Nat) (cs : List Col) : Prop := cs.map (·.1) = nmC.take k ∧ (∀ c ∈ cs, inB c.2.1 1 4 = true) ∧ (colAt cs 0).2.2 = false
def primD (cs : List Col) (ps : List By) : Prop := ps.any (nullAt cs) = false ∧ partsM cs.length ps = true
def idxD (cs : List Col) (xs : List Ix) : Prop := (xs.map (·.1) = [] ∨ (∃ u ∈ uvL, xs.map (·.1) = [u ++ (⟨#[98]⟩ : ByteArray)]) ∨ ∃ u ∈ uvL, ∃ v ∈ uvL, xs.map (·.1) = [u ++ (⟨#[99]⟩ : ByteArray), v ++ (⟨#[98]⟩ : ByteArray)]) ∧ ∀ x ∈ xs, partsM cs.length x.2.2 = true
def drawn (name : ByteArray) (x : Df) : Prop := x.1 = name ∧ (∃ k, 2 ≤ k ∧ k ≤ 4 ∧ colsD k x.2.1) ∧ primD x.2.1 x.2.2.1 ∧ idxD x.2.1 x.2.2.2
theorem colsD_len {k : Nat} {cs : List Col} (h : colsD k cs) (hk : k ≤ 4) : cs.length = k := by
 have := congrArg List.length h.1
 rw [List.length_map, List.length_take] at this
 have e : nmC.length = 4 := rfl
 omega
theorem spec_l9Draw.two {d : Nat} (hd : 4 ≤ d) {b : List Int} {ci h : Int} (hc : cur b ci) (e : ByteArray) (z1 : List Col) (z2 : List By) (z3 : List Ix) {name : ByteArray} {cs : List Col} {k : Nat} (h2 : 2 ≤ k) (h4 : k ≤ 4) (hcs : colsD k cs) {ps : List By} (hp : primD cs ps) {n : Int} (n0 : 0 ≤ n) (n2 : n ≤ 2) :
  Tells (iter (spec_l9Draw.S2 d) rnds (n, b, ci, h, e, z1, z2, z3, name, cs, ps, ([] : List Ix), nmL)) fun r => drawn name (r.1, r.2.1, r.2.2.1, r.2.2.2.1) ∧ cur b r.2.2.2.2.1 := by
 have cl := colsD_len hcs h4
 have stop : ∀ L ci h xs, cur b ci → idxD cs xs → Tells (spec_l9Draw.S2 d L ((0 : Int), b, ci, h, e, z1, z2, z3, name, cs, ps, xs, nmL)) fun r => drawn name (r.1, r.2.1, r.2.2.1, r.2.2.2.1) ∧ cur b r.2.2.2.2.1 := fun L ci h xs hc hx => by
  dsimp only [spec_l9Draw.S2, spec_l9Draw.s2]
  exact tn (by omega) (tl ⟨⟨rfl, ⟨k, h2, h4, hcs⟩, hp, hx⟩, hc⟩)
 have go : ∀ (i : Int) (w : ByteArray) L ci h xs Q, (0 < i ∧ i < 3) → List.getD nmL (Int.toNat i) ByteArray.empty = w → w.size = 1 → xs.length ≤ 2 → cur b ci → (∀ u t ys ci' h', u ∈ uvL → partsM cs.length ys = true → cur b ci' → Tells (L (i - 1, b, ci', h', e, z1, z2, z3, name, cs, ps, xs ++ [(u ++ w, t, ys)], nmL)) Q) → Tells (spec_l9Draw.S2 d L (i, b, ci, h, e, z1, z2, z3, name, cs, ps, xs, nmL)) Q := fun i w L ci h xs Q hi hw w1 hx hc ih => by
  dsimp only [spec_l9Draw.S2, spec_l9Draw.s2]
  refine tp (by omega) (tb (spec_l1Str.sp (l := uvL) (by omega) hc (by decide)) fun r hr => tt ?_ ?_)
  ·have l3 : (nmL.length : Int) = 3 := rfl
   rw [decide_eq_true (show (0 : Int) ≤ i by omega), decide_eq_true (show i < (nmL.length : Int) by omega)]; rfl
  rw [hw]
  have us : r.1.size = 1 := by
   have := hr.1
   simp only [uvL, List.mem_cons, List.not_mem_nil, or_false] at this
   rcases this with e | e <;> rw [e] <;> rfl
  refine tp ?_ (tb (spec_l1Once.sp (by omega) hr.2) fun r2 g2 => tb (spec_l9Draw2.sp (by omega) g2 (by omega) (by omega)) fun r3 g3 => tp ?_ ?_)
  ·rw [us, w1]; decide
  ·simp only [List.length_cons, List.length_nil]; omega
  ·rw [wrap_id (by omega) (by omega)]
   exact ih _ _ _ _ _ hr.1 g3.1 g3.2
 obtain ⟨R, hR⟩ : ∃ R, rnds = R + 1 + 1 + 1 := ⟨rnds - 3, by have := rnds_gt (n := 5) (by decide); omega⟩
 rw [hR]
 have : n = 0 ∨ n = 1 ∨ n = 2 := by omega
 rcases this with rfl | rfl | rfl
 ·simp only [iter]
  exact stop _ _ _ _ hc ⟨.inl rfl, fun x hx => by cases hx⟩
 ·simp only [iter]
  refine go 1 (⟨#[98]⟩ : ByteArray) _ _ _ _ _ (by omega) rfl rfl (by simp) hc fun u t ys ci' h' hu hy hc' => ?_
  exact stop _ _ _ _ hc' ⟨.inr (.inl ⟨u, hu, rfl⟩), by simpa using hy⟩
 ·simp only [iter]
  refine go 2 (⟨#[99]⟩ : ByteArray) _ _ _ _ _ (by omega) rfl rfl (by simp) hc fun u t ys ci' h' hu hy hc' => ?_
  refine go 1 (⟨#[98]⟩ : ByteArray) _ _ _ _ _ (by omega) rfl rfl (by simp) hc' fun v t2 ys2 ci2 h2 hv hy2 hc2 => ?_
  exact stop _ _ _ _ hc2 ⟨.inr (.inr ⟨u, hu, v, hv, rfl⟩), by simpa using ⟨hy, hy2⟩⟩
theorem colAt_snoc0 {cs : List Col} {c : Col} (h : 0 < cs.length) : colAt (cs ++ [c]) 0 = colAt cs 0 := by
 unfold colAt
 cases cs with
 | nil => simp at h
 | cons x r => rfl
theorem spec_l9Draw.sp {d : Nat} (hd : 5 ≤ d) {b : List Int} {ci h : Int} (hc : cur b ci) (name : ByteArray) : Tells (spec_l9Draw.f d (b, ci, h, name)) fun r => drawn name (r.1, r.2.1, r.2.2.1, r.2.2.2.1) ∧ cur b r.2.2.2.2.1 := by
 obtain ⟨d, rfl, _⟩ := dep hd
 rw [spec_l9Draw.t_eq]
 dsimp only [spec_l9Draw.m]
 refine tb (spec_l1Int.sp (by omega) hc (by simp)) fun r hr => ?_
 have key : ∀ (R i : Nat) (ci h : Int) (cs : List Col), i ≤ 3 → 3 - i < R → cur b ci → colsD (i + 1) cs → Tells (iter (spec_l9Draw.S0 d) R ((i : Int), b, ci, h, ByteArray.empty, ([] : List Col), ([] : List By), ([] : List Ix), name, cs, ([] : List By), ([] : List Ix), nmL)) fun r => drawn name (r.1, r.2.1, r.2.2.1, r.2.2.2.1) ∧ cur b r.2.2.2.2.1 := by
  intro R
  induction R with
  | zero => intro i ci h cs h1 h2; omega
  | succ R ih =>
   intro i ci h cs hi hR hc hcs
   have cl := colsD_len hcs (by omega)
   have l3 : nmL.length = 3 := rfl
   simp only [iter]
   dsimp only [spec_l9Draw.S0, spec_l9Draw.s0]
   refine tb (spec_l1Below.sp (by omega) hc) fun r2 g2 => ?_
   have a0 := g2.1
   have a1 := g2.2.1 (by omega)
   rw [wrap_id (x := 1 + r2.1) (by omega) (by omega)]
   refine tif (fun c => tp (by omega) (ti (by omega) ?_)) fun c => ?_
   ·refine tb (spec_l1Below.sp (by omega) g2.2.2) fun r3 g3 => tb (spec_l1Once.sp (by omega) g3.2.2) fun r4 g4 => ?_
    have b0 := g3.1
    have b1 := g3.2.1 (by omega)
    rw [getD_in (show i < nmL.length by omega), wrap_succ (by omega), wrap_id (x := 1 + r3.1) (by omega) (by omega)]
    refine tp (by simp only [List.length_cons, List.length_nil]; omega) (ih (i + 1) _ _ _ (by omega) (by omega) g4 ⟨?_, mem_snoc hcs.2.1 (inB_iff.2 ⟨by simp only; omega, by simp only; omega⟩), ?_⟩)
    ·rw [List.map_append, hcs.1]
     have : i = 0 ∨ i = 1 ∨ i = 2 := by omega
     rcases this with e | e | e <;> subst e <;> rfl
    ·rw [colAt_snoc0 (by omega)]; exact hcs.2.2
   ·refine tb (spec_l1Once.sp (by omega) g2.2.2) fun r5 g5 => tt ?_ ?_
    ·rw [decide_eq_true (show (1 : Int) < (cs.length : Int) by omega)]; rfl
    have c0 : (colAt cs 0).2.2 = false := hcs.2.2
    have p0 : ∀ q, primD cs [((0 : Int), q)] := fun q => ⟨by simp [nullAt, c0], inB_iff.2 ⟨by simp only; omega, by simp only; omega⟩⟩
    refine tbif (fun e => tb (spec_l1Once.sp (by omega) g5) fun r6 g6 => tbif (fun _ => tb (spec_l1Once.sp (by omega) g6) fun r7 g7 => tp (by simp) (tb (spec_l1Below.sp (by omega) g7) fun r8 g8 => ?_)) fun _ => tb (spec_l1Below.sp (by omega) g6) fun r8 g8 => ?_) fun e => tb (spec_l1Below.sp (by omega) g5) fun r8 g8 => ?_
    ·have c1 : (colAt cs 1).2.2 = false := by
      have e : (!(colAt cs 1).2.2) = true := e
      simpa using e
     refine spec_l9Draw.two (k := i + 1) (by omega) g8.2.2 _ _ _ _ (by omega) (by omega) hcs ⟨?_, ?_⟩ g8.1 (by have := g8.2.1 (by omega); omega)
     ·simp [nullAt, c0, c1]
     ·simp only [List.cons_append, List.nil_append, partsM, Bool.and_eq_true]
      exact ⟨inB_iff.2 ⟨by omega, by omega⟩, inB_iff.2 ⟨by omega, by omega⟩, by simp⟩
    ·exact spec_l9Draw.two (k := i + 1) (by omega) g8.2.2 _ _ _ _ (by omega) (by omega) hcs (p0 _) g8.1 (by have := g8.2.1 (by omega); omega)
    ·exact spec_l9Draw.two (k := i + 1) (by omega) g8.2.2 _ _ _ _ (by omega) (by omega) hcs (p0 _) g8.1 (by have := g8.2.1 (by omega); omega)
 refine key rnds 0 _ _ _ (by omega) (rnds_gt (by decide)) hr.2 ⟨rfl, ?_, rfl⟩
 intro c hc
 rw [List.mem_singleton] at hc
 rw [hc]
 have := hr.1
 simp only [List.mem_cons, List.not_mem_nil, or_false] at this
 exact inB_iff.2 ⟨by simp only; omega, by simp only; omega⟩
theorem idx_names {cs : List Col} {xs : List Ix} (h : idxD cs xs) : (∀ x ∈ xs, freeM x.1 = true) ∧ onceR [] (xs.map (·.1)) = true ∧ xs.length ≤ 2 ∧ ∀ x ∈ xs, x.1.size ≤ 100 := by
 have f1 : ∀ u ∈ uvL, freeM (u ++ (⟨#[98]⟩ : ByteArray)) = true ∧ (u ++ (⟨#[98]⟩ : ByteArray)).size ≤ 100 := by decide +kernel
 have f2 : ∀ u ∈ uvL, freeM (u ++ (⟨#[99]⟩ : ByteArray)) = true ∧ (u ++ (⟨#[99]⟩ : ByteArray)).size ≤ 100 := by decide +kernel
 have o1 : ∀ u ∈ uvL, onceR [] [u ++ (⟨#[98]⟩ : ByteArray)] = true := by decide +kernel
 have o2 : ∀ u ∈ uvL, ∀ v ∈ uvL, onceR [] [u ++ (⟨#[99]⟩ : ByteArray), v ++ (⟨#[98]⟩ : ByteArray)] = true := by decide +kernel
 have mm : ∀ {P : ByteArray → Prop} {l : List ByteArray}, xs.map (·.1) = l → (∀ s ∈ l, P s) → ∀ x ∈ xs, P x.1 := fun e hp x hx => hp _ (e ▸ List.mem_map_of_mem (f := fun y : Ix => y.1) hx)
 have ll : ∀ {l : List ByteArray}, xs.map (·.1) = l → xs.length = l.length := fun e => by rw [← e, List.length_map]
 rcases h.1 with e | ⟨u, hu, e⟩ | ⟨u, hu, v, hv, e⟩
 ·have := ll e
  exact ⟨mm (P := fun s => freeM s = true) e (fun s hs => by cases hs), by rw [e]; rfl, by rw [this]; decide, mm (P := fun s => s.size ≤ 100) e (fun s hs => by cases hs)⟩
 ·have := ll e
  have one : ∀ {P : ByteArray → Prop}, P (u ++ (⟨#[98]⟩ : ByteArray)) → ∀ s ∈ [u ++ (⟨#[98]⟩ : ByteArray)], P s := fun h s hs => by rw [List.mem_singleton] at hs; rw [hs]; exact h
  exact ⟨mm (P := fun s => freeM s = true) e (one (P := fun s => freeM s = true) (f1 u hu).1), by rw [e]; exact o1 u hu, by rw [this]; simp, mm (P := fun s => s.size ≤ 100) e (one (P := fun s => s.size ≤ 100) (f1 u hu).2)⟩
 ·have := ll e
  have two : ∀ {P : ByteArray → Prop}, P (u ++ (⟨#[99]⟩ : ByteArray)) → P (v ++ (⟨#[98]⟩ : ByteArray)) → ∀ s ∈ [u ++ (⟨#[99]⟩ : ByteArray), v ++ (⟨#[98]⟩ : ByteArray)], P s := fun h h2 s hs => by
   rcases List.mem_cons.1 hs with e | hs
   ·rw [e]; exact h
   ·rw [List.mem_singleton.1 hs]; exact h2
  exact ⟨mm (P := fun s => freeM s = true) e (two (P := fun s => freeM s = true) (f2 u hu).1 (f1 v hv).1), by rw [e]; exact o2 u hu v hv, by rw [this]; simp, mm (P := fun s => s.size ≤ 100) e (two (P := fun s => s.size ≤ 100) (f2 u hu).2 (f1 v hv).2)⟩
theorem drawn.names {name : ByteArray} {x : Df} (h : drawn name x) : ∀ c ∈ x.2.1, c.1 ∈ nmC := by
 obtain ⟨_, ⟨k, _, _, hk, _⟩, _⟩ := h
 intro c hc
 have := List.mem_map_of_mem (f := fun y : Col => y.1) hc
 rw [hk] at this
 exact List.mem_of_mem_take this
theorem drawn.tab {name : ByteArray} {x : Df} (h : drawn name x) (hs : name.size ≤ 100) : tabD 5 x := by
 have hn := h.names
 obtain ⟨e, ⟨k, k2, k4, hc⟩, hp, hx⟩ := h
 have cl := colsD_len hc k4
 have ix := idx_names hx
 have ns : ∀ s ∈ nmC, s.size ≤ 100 := by decide
 have := partsM_len hp.2
 exact ⟨by rw [e]; exact hs, ⟨by omega, fun c hc => ns _ (hn c hc)⟩, by omega, by omega, fun y hy => ⟨ix.2.2.2 y hy, by have := partsM_len (hx.2 y hy); omega⟩⟩
theorem app_eq (a b : ByteArray) : ByteArray.append a b = a ++ b := rfl
theorem tz {α : Type} {a b : ByteArray} {x y : Option α} {Q : α → Prop} (h : a.size + b.size ≤ 1000000000000) (k : Tells x Q) : Tells (bif decide (¬ ((a.size + b.size : Nat) : Int) > IntKind.max IntKind.i64) then x else y) Q :=
 tp (by show ¬ (_ > (9223372036854775807 : Int)); omega) k
theorem ba_ext {a b : ByteArray} (h : a.data.toList = b.data.toList) : a = b := ByteArray.ext (Array.toList_inj.1 h)
theorem joinS_one (p s : ByteArray) : joinS [p] s = p := by
 apply ba_ext
 unfold joinS Lib.join
 simp [List.intercalate]
theorem joinS_two (p q s : ByteArray) : joinS [p, q] s = p ++ s ++ q := by
 apply ba_ext
 unfold joinS Lib.join
 simp [List.intercalate, ByteArray.data_append]
theorem impl_partsText.sp {d : Nat} (hd : 2 ≤ d) {x : Df} (hn : namesS x.2.1) {l : List By} (h : partsM x.2.1.length l = true) : impl_partsText.f d (x.1, x.2.1, x.2.2.1, x.2.2.2, l) = some (partTx x.2.1 l) := by
 obtain ⟨d, rfl, _⟩ := dep hd
 rw [impl_partsText.t_eq]
 dsimp only [impl_partsText.m]
 have ll := partsM_len h
 have pin := partsM_in h
 refine Tells.eq (loopApp (α := Int × Bool) (β := ByteArray) (impl_partsText.S0 d) l (partOne x.2.1) (fun st i => (l, (l.length : Int), i, x.1, x.2.1, x.2.2.1, x.2.2.2, st)) _ (by omega) (fun L => ?_) fun L st i Q hi h1 ih => ?_)
 ·dsimp only [impl_partsText.S0, impl_partsText.s0]
  refine tn (by omega) ?_
  obtain ⟨d, rfl, _⟩ := dep (show 0 + 1 ≤ d by omega)
  rw [strings_Join.t_eq]
  have z1 : (⟨#[59, 32]⟩ : ByteArray).size = 2 := rfl
  have z2 : (⟨#[44, 32]⟩ : ByteArray).size = 2 := rfl
  have hp := fun p hp => partOne_size hn p (pin p hp).1 (pin p hp).2
  match l, ll, hp with
  | [p], _, hp =>
   have := hp p (by simp)
   have e : joinLaw ([p].map (partOne x.2.1), (⟨#[44, 32]⟩ : ByteArray)) = some (partOne x.2.1 p) := by
    unfold joinLaw
    simp only [List.map_cons, List.map_nil, joinS_one]
    rw [if_pos ⟨by simp, by omega⟩]
   exact tc e (tz (by omega) (tl rfl))
  | [p, q], _, hp =>
   have := hp p (by simp)
   have := hp q (by simp)
   have e : joinLaw ([p, q].map (partOne x.2.1), (⟨#[44, 32]⟩ : ByteArray)) = some (partOne x.2.1 p ++ (⟨#[44, 32]⟩ : ByteArray) ++ partOne x.2.1 q) := by
    unfold joinLaw
    simp only [List.map_cons, List.map_nil, joinS_two]
    rw [if_pos ⟨by simp, by simp only [ByteArray.size_append]; omega⟩]
   exact tc e (tz (by simp only [ByteArray.size_append]; omega) (tl rfl))
  | [], ll, _ => exact absurd ll.1 (by simp)
  | _ :: _ :: _ :: r, ll, _ => exact absurd ll.2 (by simp only [List.length_cons]; omega)
 ·dsimp only [impl_partsText.S0, impl_partsText.s0]
  have q := pin _ (List.getElem_mem hi)
  refine tp (by omega) (ti hi ?_)
  rw [getD_in hi, wrap_succ (by omega)]
  refine tt (by rw [decide_eq_true q.1, decide_eq_true q.2]; rfl) ?_
  have sz : (colAt x.2.1 l[i].1).1.size ≤ 8 := hn _ (at_mem q.1 q.2)
  have z : (⟨#[32, 100, 101, 115, 99]⟩ : ByteArray).size = 5 := rfl
  unfold partOne at ih
  cases c : l[i].2 with
  | true =>
   rw [c] at ih
   exact tt rfl (tz (a := (colAt x.2.1 l[i].1).1) (by omega) (tp (by simp only [List.length_cons, List.length_nil]; omega) ih))
  | false =>
   rw [c] at ih
   exact tf rfl (tp (by simp only [List.length_cons, List.length_nil]; omega) ih)
theorem spec_l9PartsText.sp {d : Nat} (hd : 1 ≤ d) {x : Df} (hn : namesS x.2.1) {l : List By} (h : partsM x.2.1.length l = true) : spec_l9PartsText.f d (x.1, x.2.1, x.2.2.1, x.2.2.2, l) = some (partTx x.2.1 l) := by
 obtain ⟨d, rfl, _⟩ := dep hd
 rw [spec_l9PartsText.t_eq]
 dsimp only [spec_l9PartsText.m]
 have ll := partsM_len h
 have pin := partsM_in h
 have hp := fun p hp => partOne_size hn p (pin p hp).1 (pin p hp).2
 have z1 : (⟨#[59, 32]⟩ : ByteArray).size = 2 := rfl
 have z2 : (⟨#[44, 32]⟩ : ByteArray).size = 2 := rfl
 have z3 : (⟨#[32, 100, 101, 115, 99]⟩ : ByteArray).size = 5 := rfl
 have z0 : (⟨#[]⟩ : ByteArray).size = 0 := rfl
 have stop : ∀ L s, s.size ≤ 100 → Tells (spec_l9PartsText.S0 d L (l, s, (l.length : Int), x.1, x.2.1, x.2.2.1, x.2.2.2)) (· = s ++ (⟨#[59, 32]⟩ : ByteArray)) := fun L s hs => by
  dsimp only [spec_l9PartsText.S0, spec_l9PartsText.s0]
  exact tn (by omega) (tz (by omega) (tl rfl))
 have go : ∀ L s (i : Nat) (hi : i < l.length) Q, s.size ≤ 20 → Tells (L (l, (if i = 0 then s else s ++ (⟨#[44, 32]⟩ : ByteArray)) ++ partOne x.2.1 l[i], ((i + 1 : Nat) : Int), x.1, x.2.1, x.2.2.1, x.2.2.2)) Q → Tells (spec_l9PartsText.S0 d L (l, s, (i : Int), x.1, x.2.1, x.2.2.1, x.2.2.2)) Q := fun L s i hi Q hs ih => by
  dsimp only [spec_l9PartsText.S0, spec_l9PartsText.s0]
  have q := pin _ (List.getElem_mem hi)
  have sz : (colAt x.2.1 l[i].1).1.size ≤ 8 := hn _ (at_mem q.1 q.2)
  have iq : (decide (0 ≤ l[i].1) && decide (l[i].1 < (x.2.1.length : Int))) = true := by rw [decide_eq_true q.1, decide_eq_true q.2]; rfl
  have pe : partOne x.2.1 l[i] = bif l[i].2 then (colAt x.2.1 l[i].1).1 ++ (⟨#[32, 100, 101, 115, 99]⟩ : ByteArray) else (colAt x.2.1 l[i].1).1 := rfl
  rw [pe] at ih
  rw [getD_in hi, wrap_succ (by omega)]
  refine tp (by omega) (tif (fun c => tz (by omega) (ti hi (tt iq (tz (b := (colAt x.2.1 l[i].1).1) ?_ (ti hi ?_))))) fun c => ti hi (tt iq (tz (b := (colAt x.2.1 l[i].1).1) (by omega) (ti hi ?_))))
  ·rw [app_eq, ByteArray.size_append]; omega
  ·rw [if_neg (by omega)] at ih
   cases c2 : l[i].2 with
   | true =>
    rw [c2, cond_true, ← ba_assoc] at ih
    refine tt rfl (tz ?_ ih)
    show (s ++ _ ++ (colAt x.2.1 l[i].1).1).size + _ ≤ _
    simp only [ByteArray.size_append]; omega
   | false =>
    rw [c2, cond_false] at ih
    exact tf rfl ih
  ·rw [if_pos (by omega)] at ih
   cases c2 : l[i].2 with
   | true =>
    rw [c2, cond_true, ← ba_assoc] at ih
    refine tt rfl (tz ?_ ih)
    show (s ++ (colAt x.2.1 l[i].1).1).size + _ ≤ _
    simp only [ByteArray.size_append]; omega
   | false =>
    rw [c2, cond_false] at ih
    exact tf rfl ih
 obtain ⟨R, hR⟩ : ∃ R, rnds = R + 1 + 1 + 1 := ⟨rnds - 3, by have := rnds_gt (n := 5) (by decide); omega⟩
 rw [hR]
 simp only [iter]
 refine Tells.eq ?_
 match l, ll, hp, stop, go with
 | [p], _, hp, stop, go =>
  have := hp p (by simp)
  refine go _ _ 0 (by simp) _ (by omega) ?_
  rw [if_pos rfl, ba_nil]
  exact stop _ _ (by simp only [List.getElem_cons_zero]; omega)
 | [p, q], _, hp, stop, go =>
  have := hp p (by simp)
  have := hp q (by simp)
  refine go _ _ 0 (by simp) _ (by omega) (go _ _ 1 (by simp) _ ?_ ?_)
  ·rw [if_pos rfl, ba_nil]; simp only [List.getElem_cons_zero]; omega
  ·rw [if_pos rfl, if_neg (by decide), ba_nil]
   exact stop _ _ (by simp only [ByteArray.size_append, List.getElem_cons_zero, List.getElem_cons_succ]; omega)
 | [], ll, _, _, _ => exact absurd ll.1 (by simp)
 | _ :: _ :: _ :: r, ll, _, _, _ => exact absurd ll.2 (by simp only [List.length_cons]; omega)
theorem types_split : splitL (⟨#[32, 105, 110, 116, 32, 110, 117, 109, 32, 116, 101, 120, 116, 32, 98, 111, 111, 108]⟩ : ByteArray) = tyL := by kernel_rfl
theorem spec_l9Type.sp {d : Nat} (hd : 1 ≤ d) {t : Int} (h0 : 0 ≤ t) (h1 : t ≤ 4) : spec_l9Type.f d t = some (tyAt t) := by
 obtain ⟨d, rfl, _⟩ := dep hd
 rw [spec_l9Type.t_eq]
 dsimp only [spec_l9Type.m]
 have l5 : (tyL.length : Int) = 5 := rfl
 exact Tells.eq (tt (show (decide (0 ≤ t) && decide (t < (tyL.length : Int))) = true by rw [decide_eq_true h0, decide_eq_true (show t < (tyL.length : Int) by omega)]; rfl) (tl rfl))
theorem goodM.cols {x : Df} (g : goodM x) : namesS x.2.1 ∧ (∀ c ∈ x.2.1, c.1.size ≤ 8 ∧ 1 ≤ c.2.1 ∧ c.2.1 ≤ 4) ∧ x.1.size ≤ 8 ∧ ∀ y ∈ x.2.2.2, y.1.size ≤ 8 := by
 obtain ⟨n1, n2, n3⟩ := g.names
 have t := g.types
 have hn : namesS x.2.1 := fun c hc => (freeM_size (n2 c hc)).2
 exact ⟨hn, fun c hc => ⟨hn c hc, inB_iff.1 (t.1 c hc)⟩, (freeM_size n1).2, fun y hy => (freeM_size (n3 y hy)).2⟩
theorem foldl_snoc {β : Type} (f : ByteArray → β → ByteArray) {l : List β} {i : Nat} (hi : i < l.length) (s : ByteArray) : (l.take (i + 1)).foldl f s = f ((l.take i).foldl f s) l[i] := by
 rw [take_succ' hi, List.foldl_append]; rfl
theorem text_sizes {x : Df} (g : goodM x) (i : Nat) : ((x.2.1.take i).foldl colS (headTx x)).size ≤ 300 ∧ ((x.2.2.2.take i).foldl (idxS x.2.1) (x.2.1.foldl colS (headTx x) ++ ((⟨#[112, 114, 105, 109, 97, 114, 121, 32]⟩ : ByteArray) ++ partTx x.2.1 x.2.2.1))).size ≤ 1000 := by
 obtain ⟨hn, hc, h1, hx⟩ := g.cols
 obtain ⟨t1, t2, t3⟩ := g.types
 obtain ⟨p1, p2⟩ := g.parts
 have x2 := g.2.2.2.1
 have z4 : (⟨#[116, 97, 98, 108, 101, 32]⟩ : ByteArray).size = 6 := rfl
 have z5 : (⟨#[32, 123, 32]⟩ : ByteArray).size = 3 := rfl
 have z6 : (⟨#[112, 114, 105, 109, 97, 114, 121, 32]⟩ : ByteArray).size = 8 := rfl
 have pz := partTx_size hn _ p1
 have hz : (headTx x).size ≤ 20 := by unfold headTx; simp only [ByteArray.size_append]; omega
 have f1 := foldl_size colS 30 (x.2.1.take i) (headTx x) fun c h s => colS_size s c (hc c (List.mem_of_mem_take h))
 have f2 := foldl_size colS 30 x.2.1 (headTx x) fun c h s => colS_size s c (hc c h)
 have f3 := foldl_size (idxS x.2.1) 60 (x.2.2.2.take i) (x.2.1.foldl colS (headTx x) ++ ((⟨#[112, 114, 105, 109, 97, 114, 121, 32]⟩ : ByteArray) ++ partTx x.2.1 x.2.2.1)) fun y h s => idxS_size hn s y ⟨hx y (List.mem_of_mem_take h), p2 y (List.mem_of_mem_take h)⟩
 rw [List.length_take] at f1 f3
 simp only [ByteArray.size_append] at f3
 omega
theorem impl_DefText.sp {d : Nat} (hd : 6 ≤ d) {x : Df} (h : dfFit 140737488351232 x) : impl_DefText.f d (x.1, x.2.1, x.2.2.1, x.2.2.2) = some (defTx x) := by
 obtain ⟨d, rfl, _⟩ := dep hd
 rw [impl_DefText.t_eq]
 dsimp only [impl_DefText.m]
 unfold defTx
 refine Tells.eq (tc (impl_CheckDef.sp (by omega) h) (tneq (fun c => tl (by rw [decide_eq_false c]; rfl)) fun c => ?_))
 rw [decide_eq_true c, cond_true]
 have g := checkM_iff.1 c
 obtain ⟨hn, hc, h1, hx⟩ := g.cols
 obtain ⟨p1, p2⟩ := g.parts
 have t := g.types
 have x2 := g.2.2.2.1
 have z1 : (⟨#[59, 32]⟩ : ByteArray).size = 2 := rfl
 have z2 : (⟨#[32]⟩ : ByteArray).size = 1 := rfl
 have z3 : (⟨#[32, 110, 117, 108, 108]⟩ : ByteArray).size = 5 := rfl
 have z4 : (⟨#[116, 97, 98, 108, 101, 32]⟩ : ByteArray).size = 6 := rfl
 have z5 : (⟨#[32, 123, 32]⟩ : ByteArray).size = 3 := rfl
 have z6 : (⟨#[112, 114, 105, 109, 97, 114, 121, 32]⟩ : ByteArray).size = 8 := rfl
 have z7 : (⟨#[117, 110, 105, 113, 117, 101, 32]⟩ : ByteArray).size = 7 := rfl
 have z8 : (⟨#[105, 110, 100, 101, 120, 32]⟩ : ByteArray).size = 6 := rfl
 have z9 : (⟨#[125]⟩ : ByteArray).size = 1 := rfl
 have pz := partTx_size hn _ p1
 refine tz (by omega) (tz (by rw [app_eq, ByteArray.size_append]; omega) ?_)
 refine loop0 (σ := ByteArray) (impl_DefText.S0 d) x.2.1.length (fun s i => (s, x.2.1, (x.2.1.length : Int), i, x.1, x.2.1, x.2.2.1, x.2.2.2)) (fun s i => s = (x.2.1.take i).foldl colS (headTx x)) (fun _ _ r => r = restTx x (x.2.1.foldl colS (headTx x))) _ (by omega) rfl ?_ ?_
 ·rintro L s rfl
  have sz := (text_sizes g x.2.1.length).1
  rw [List.take_length] at sz ⊢
  dsimp only [impl_DefText.S0, impl_DefText.s0]
  refine tn (by omega) (tc (impl_partsText.sp (by omega) hn p1) (tz (by omega) (tz (by rw [app_eq, ByteArray.size_append]; omega) ?_)))
  refine loop0 (σ := ByteArray) (impl_DefText.S2 d) x.2.2.2.length (fun s i => (s, x.2.2.2, (x.2.2.2.length : Int), i, x.1, x.2.1, x.2.2.1, x.2.2.2)) (fun s i => s = (x.2.2.2.take i).foldl (idxS x.2.1) (x.2.1.foldl colS (headTx x) ++ ((⟨#[112, 114, 105, 109, 97, 114, 121, 32]⟩ : ByteArray) ++ partTx x.2.1 x.2.2.1))) (fun _ _ r => r = restTx x (x.2.1.foldl colS (headTx x))) _ (by omega) rfl ?_ ?_
  ·rintro L s rfl
   have sz := (text_sizes g x.2.2.2.length).2
   rw [List.take_length] at sz ⊢
   dsimp only [impl_DefText.S2, impl_DefText.s2]
   exact tn (by omega) (tz (by omega) (tl rfl))
  ·rintro L s i rfl hi ih
   have sz := (text_sizes g i).2
   revert sz ih
   generalize he : (x.2.2.2.take i).foldl (idxS x.2.1) (x.2.1.foldl colS (headTx x) ++ ((⟨#[112, 114, 105, 109, 97, 114, 121, 32]⟩ : ByteArray) ++ partTx x.2.1 x.2.2.1)) = s
   intro ih sz
   have ih := ih _ (foldl_snoc (idxS x.2.1) hi _).symm
   rw [he] at ih
   unfold idxS at ih
   dsimp only [impl_DefText.S2, impl_DefText.s2]
   have sx := hx _ (List.getElem_mem hi)
   have px := p2 _ (List.getElem_mem hi)
   have pt := partTx_size hn _ px
   rw [getD_in hi, wrap_succ (by omega)]
   refine tp (by omega) (ti hi ?_)
   cases c : x.2.2.2[i].2.1 with
   | true =>
    rw [c] at ih
    refine tt rfl (tz (by omega) (tz (by rw [app_eq, ByteArray.size_append]; omega) (tc (impl_partsText.sp (by omega) hn px) (tz ?_ (tz ?_ ih)))))
    ·simp only [app_eq, ByteArray.size_append]; omega
    ·simp only [app_eq, ByteArray.size_append]; omega
   | false =>
    rw [c] at ih
    refine tf rfl (tz (by omega) (tz (by rw [app_eq, ByteArray.size_append]; omega) (tc (impl_partsText.sp (by omega) hn px) (tz ?_ (tz ?_ ih)))))
    ·simp only [app_eq, ByteArray.size_append]; omega
    ·simp only [app_eq, ByteArray.size_append]; omega
 ·rintro L s i rfl hi ih
  have sz := (text_sizes g i).1
  revert sz ih
  generalize he : (x.2.1.take i).foldl colS (headTx x) = s
  intro ih sz
  have ih := ih _ (foldl_snoc colS hi _).symm
  rw [he] at ih
  unfold colS at ih
  dsimp only [impl_DefText.S0, impl_DefText.s0]
  have cx := hc _ (List.getElem_mem hi)
  have ts := tyAt_size x.2.1[i].2.1 cx.2.1 cx.2.2
  rw [getD_in hi, wrap_succ (by omega)]
  obtain ⟨d, rfl, _⟩ := dep (show 0 + 1 ≤ d by omega)
  rw [strings_Split.t_eq]
  have e : splitLaw ((⟨#[32, 105, 110, 116, 32, 110, 117, 109, 32, 116, 101, 120, 116, 32, 98, 111, 111, 108]⟩ : ByteArray), (⟨#[32]⟩ : ByteArray)) = some tyL := by
   unfold splitLaw
   rw [if_pos ⟨rfl, by decide⟩, types_split]
  have l5 : (tyL.length : Int) = 5 := rfl
  have tyE : List.getD tyL (Int.toNat x.2.1[i].2.1) ByteArray.empty = tyAt x.2.1[i].2.1 := rfl
  refine tp (by omega) (ti hi (tz (by omega) (tc e (tt ?_ ?_))))
  ·rw [decide_eq_true (show 0 ≤ x.2.1[i].2.1 by omega), decide_eq_true (show x.2.1[i].2.1 < (tyL.length : Int) by omega)]; rfl
  rw [tyE]
  refine tz (by rw [app_eq, ByteArray.size_append]; omega) (tz (by simp only [app_eq, ByteArray.size_append]; omega) ?_)
  cases c : x.2.1[i].2.2 with
  | true =>
   rw [c] at ih
   exact tt rfl (tz (by simp only [app_eq, ByteArray.size_append]; omega) (tz (by simp only [app_eq, ByteArray.size_append]; omega) ih))
  | false =>
   rw [c] at ih
   exact tf rfl (tz (by simp only [app_eq, ByteArray.size_append]; omega) ih)
theorem spec_DefText.sp {d : Nat} (hd : 7 ≤ d) {x : Df} (h : dfFit 140737488351232 x) : spec_DefText.f d (x.1, x.2.1, x.2.2.1, x.2.2.2) = some (defTx x) := by
 obtain ⟨d, rfl, _⟩ := dep hd
 rw [spec_DefText.t_eq]
 dsimp only [spec_DefText.m]
 unfold defTx
 refine Tells.eq (tc (spec_CheckDef.sp (by omega) h) (tneq (fun c => tl (by rw [decide_eq_false c]; rfl)) fun c => ?_))
 rw [decide_eq_true c, cond_true]
 have g := checkM_iff.1 c
 obtain ⟨hn, hc, h1, hx⟩ := g.cols
 obtain ⟨p1, p2⟩ := g.parts
 have t := g.types
 have x2 := g.2.2.2.1
 have z1 : (⟨#[59, 32]⟩ : ByteArray).size = 2 := rfl
 have z2 : (⟨#[32]⟩ : ByteArray).size = 1 := rfl
 have z3 : (⟨#[32, 110, 117, 108, 108]⟩ : ByteArray).size = 5 := rfl
 have z4 : (⟨#[116, 97, 98, 108, 101, 32]⟩ : ByteArray).size = 6 := rfl
 have z5 : (⟨#[32, 123, 32]⟩ : ByteArray).size = 3 := rfl
 have z6 : (⟨#[112, 114, 105, 109, 97, 114, 121, 32]⟩ : ByteArray).size = 8 := rfl
 have z7 : (⟨#[117, 110, 105, 113, 117, 101, 32]⟩ : ByteArray).size = 7 := rfl
 have z8 : (⟨#[105, 110, 100, 101, 120, 32]⟩ : ByteArray).size = 6 := rfl
 have z9 : (⟨#[125]⟩ : ByteArray).size = 1 := rfl
 have pz := partTx_size hn _ p1
 refine tz (by omega) (tz (by rw [app_eq, ByteArray.size_append]; omega) ?_)
 refine loop0 (σ := ByteArray) (spec_DefText.S0 d) x.2.1.length (fun s i => (s, i, x.1, x.2.1, x.2.2.1, x.2.2.2)) (fun s i => s = (x.2.1.take i).foldl colS (headTx x)) (fun _ _ r => r = restTx x (x.2.1.foldl colS (headTx x))) _ (by omega) rfl ?_ ?_
 ·rintro L s rfl
  have sz := (text_sizes g x.2.1.length).1
  rw [List.take_length] at sz ⊢
  dsimp only [spec_DefText.S0, spec_DefText.s0]
  refine tn (by omega) (tz (by omega) (tc (spec_l9PartsText.sp (by omega) hn p1) (tz (by rw [app_eq, ByteArray.size_append]; omega) ?_)))
  refine loop0 (σ := ByteArray) (spec_DefText.S2 d) x.2.2.2.length (fun s i => (s, i, x.1, x.2.1, x.2.2.1, x.2.2.2)) (fun s i => s = (x.2.2.2.take i).foldl (idxS x.2.1) (x.2.1.foldl colS (headTx x) ++ ((⟨#[112, 114, 105, 109, 97, 114, 121, 32]⟩ : ByteArray) ++ partTx x.2.1 x.2.2.1))) (fun _ _ r => r = restTx x (x.2.1.foldl colS (headTx x))) _ (by omega) (by simp only [app_eq, ba_assoc]; rfl) ?_ ?_
  ·rintro L s rfl
   have sz := (text_sizes g x.2.2.2.length).2
   rw [List.take_length] at sz ⊢
   dsimp only [spec_DefText.S2, spec_DefText.s2]
   exact tn (by omega) (tz (by omega) (tl rfl))
  ·rintro L s i rfl hi ih
   have sz := (text_sizes g i).2
   revert sz ih
   generalize he : (x.2.2.2.take i).foldl (idxS x.2.1) (x.2.1.foldl colS (headTx x) ++ ((⟨#[112, 114, 105, 109, 97, 114, 121, 32]⟩ : ByteArray) ++ partTx x.2.1 x.2.2.1)) = s
   intro ih sz
   have ih := ih _ (foldl_snoc (idxS x.2.1) hi _).symm
   rw [he] at ih
   unfold idxS at ih
   dsimp only [spec_DefText.S2, spec_DefText.s2]
   have sx := hx _ (List.getElem_mem hi)
   have px := p2 _ (List.getElem_mem hi)
   have pt := partTx_size hn _ px
   rw [getD_in hi, wrap_succ (by omega)]
   refine tp (by omega) (ti hi ?_)
   cases c : x.2.2.2[i].2.1 with
   | true =>
    rw [c, cond_true, ← ba_assoc, ← ba_assoc, ← ba_assoc] at ih
    refine tt rfl (tz (by omega) (ti hi (tz (by rw [app_eq, ByteArray.size_append]; omega) (tz ?_ (ti hi (tc (spec_l9PartsText.sp (by omega) hn px) (tz ?_ ih)))))))
    ·simp only [app_eq, ByteArray.size_append]; omega
    ·simp only [app_eq, ByteArray.size_append]; omega
   | false =>
    rw [c, cond_false, ← ba_assoc, ← ba_assoc, ← ba_assoc] at ih
    refine tf rfl (tz (by omega) (ti hi (tz (by rw [app_eq, ByteArray.size_append]; omega) (tz ?_ (ti hi (tc (spec_l9PartsText.sp (by omega) hn px) (tz ?_ ih)))))))
    ·simp only [app_eq, ByteArray.size_append]; omega
    ·simp only [app_eq, ByteArray.size_append]; omega
 ·rintro L s i rfl hi ih
  have sz := (text_sizes g i).1
  revert sz ih
  generalize he : (x.2.1.take i).foldl colS (headTx x) = s
  intro ih sz
  have ih := ih _ (foldl_snoc colS hi _).symm
  rw [he] at ih
  unfold colS at ih
  dsimp only [spec_DefText.S0, spec_DefText.s0]
  have cx := hc _ (List.getElem_mem hi)
  have ts := tyAt_size x.2.1[i].2.1 cx.2.1 cx.2.2
  rw [getD_in hi, wrap_succ (by omega)]
  refine tp (by omega) (ti hi (tz (by omega) (tz (by rw [app_eq, ByteArray.size_append]; omega) (ti hi (tc (spec_l9Type.sp (by omega) (by omega) cx.2.2) ?_)))))
  refine tz (by simp only [app_eq, ByteArray.size_append]; omega) (ti hi ?_)
  rw [← ba_assoc, ← ba_assoc] at ih
  cases c : x.2.1[i].2.2 with
  | true =>
   rw [c] at ih
   exact tt rfl (tz (by simp only [app_eq, ByteArray.size_append]; omega) (tz (by simp only [app_eq, ByteArray.size_append]; omega) ih))
  | false =>
   rw [c] at ih
   exact tf rfl (tz (by simp only [app_eq, ByteArray.size_append]; omega) ih)
abbrev Tok := Int × ByteArray
def wTable : ByteArray := ⟨#[116, 97, 98, 108, 101]⟩
def wPrimary : ByteArray := ⟨#[112, 114, 105, 109, 97, 114, 121]⟩
def wUnique : ByteArray := ⟨#[117, 110, 105, 113, 117, 101]⟩
def wIndex : ByteArray := ⟨#[105, 110, 100, 101, 120]⟩
def wNull : ByteArray := ⟨#[110, 117, 108, 108]⟩
def wDesc : ByteArray := ⟨#[100, 101, 115, 99]⟩
def mOpen : ByteArray := ⟨#[123]⟩
def mClose : ByteArray := ⟨#[125]⟩
def mComma : ByteArray := ⟨#[44]⟩
def mSemi : ByteArray := ⟨#[59]⟩
def colToks (c : Col) : List Tok := (1, c.1) :: (1, tyAt c.2.1) :: ((bif c.2.2 then [(1, wNull)] else []) ++ [(2, mSemi)])
def partToks (cs : List Col) (p : By) : List Tok := (1, (colAt cs p.1).1) :: (bif p.2 then [(1, wDesc)] else [])
def partsToks (cs : List Col) : List By → List Tok
 | [] => []
 | [p] => partToks cs p ++ [(2, mSemi)]
 | p :: q :: r => partToks cs p ++ (2, mComma) :: partsToks cs (q :: r)
def idxToks (cs : List Col) (x : Ix) : List Tok := (1, bif x.2.1 then wUnique else wIndex) :: (1, x.1) :: partsToks cs x.2.2
def defToks (x : Df) : List Tok := (1, wTable) :: (1, x.1) :: (2, mOpen) :: (x.2.1.flatMap colToks ++ (1, wPrimary) :: (partsToks x.2.1 x.2.2.1 ++ (x.2.2.2.flatMap (idxToks x.2.1) ++ [(2, mClose)])))
def allToks (l : List Df) : List Tok := l.flatMap defToks
abbrev Rest := Option (List Tok)
def isS (s : ByteArray) : Rest → Bool × Rest
 | none => (false, none)
 | some [] => (false, some [])
 | some (t :: r) => bif isT t.2 s then (true, some r) else (false, some (t :: r))
def mustS (s : ByteArray) : Rest → Rest
 | none => none
 | some [] => none
 | some (t :: r) => bif isT t.2 s then some r else none
def nameS : Rest → Option (ByteArray × List Tok)
 | none => none
 | some [] => none
 | some (t :: r) => bif t.1 == 1 then some (t.2, r) else none
def tyNo (s : ByteArray) : Int := bif isT s (tyAt 1) then 1 else bif isT s (tyAt 2) then 2 else bif isT s (tyAt 3) then 3 else bif isT s (tyAt 4) then 4 else 0
def partsS (q : ByteArray → Int) : Nat → Rest → Option (List By × List Tok)
 | 0, _ => none
 | k + 1, o => match nameS o with
  | none => none
  | some (nm, r) => bif (isS mSemi (isS wDesc (some r)).2).1 then (isS mSemi (isS wDesc (some r)).2).2.map fun r' => ([(q nm, (isS wDesc (some r)).1)], r')
    else (partsS q k (mustS mComma (isS wDesc (some r)).2)).map fun v => ((q nm, (isS wDesc (some r)).1) :: v.1, v.2)
def colI (o : Rest) : Option (Col × List Tok) := match nameS o with
 | none => none
 | some (nm, r) => match nameS (some r) with
  | none => none
  | some (ty, r2) => bif tyNo ty == 0 then none else (mustS mSemi (isS wNull (some r2)).2).map fun r' => ((nm, tyNo ty, (isS wNull (some r2)).1), r')
def tySkip : List Tok → Int × List Tok
 | [] => (0, [])
 | t :: r => bif tyNo t.2 == 0 then (0, t :: r) else (tyNo t.2, r)
def colS1 (o : Rest) : Option (Col × List Tok) := match nameS o with
 | none => none
 | some (nm, r) => (mustS mSemi (isS wNull (some (tySkip r).2)).2).map fun r' => ((nm, (tySkip r).1, (isS wNull (some (tySkip r).2)).1), r')
def colsS (cp : Rest → Option (Col × List Tok)) : Nat → Rest → Option (List Col × List Tok)
 | 0, _ => none
 | k + 1, o => match o with
  | none => none
  | some r => bif (isS wPrimary (some r)).1 then (isS wPrimary (some r)).2.map fun r' => ([], r') else match cp (some r) with
   | none => none
   | some (c, r2) => (colsS cp k (some r2)).map fun v => (c :: v.1, v.2)
def idxS1 (q : ByteArray → Int) (N : Nat) (o : Rest) : Option (Ix × List Tok) := match nameS (bif (isS wUnique o).1 then (isS wUnique o).2 else mustS wIndex o) with
 | none => none
 | some (nm, r) => (partsS q N (some r)).map fun v => ((nm, (isS wUnique o).1, v.1), v.2)
def idxsS (q : ByteArray → Int) (N : Nat) : Nat → Rest → Option (List Ix × List Tok)
 | 0, _ => none
 | k + 1, o => match o with
  | none => none
  | some r => bif (isS mClose (some r)).1 then (isS mClose (some r)).2.map fun r' => ([], r') else match idxS1 q N (some r) with
   | none => none
   | some (x, r2) => (idxsS q N k (some r2)).map fun v => (x :: v.1, v.2)
def tailS (qf : List Col → ByteArray → Int) (N : Nat) (nm : ByteArray) (cs : List Col) (r : List Tok) : Option (Df × List Tok) := match partsS (qf cs) N (some r) with
 | none => none
 | some (ps, r2) => (idxsS (qf cs) N N (some r2)).map fun v => ((nm, cs, ps, v.1), v.2)
def defS (cp : Rest → Option (Col × List Tok)) (qf : List Col → ByteArray → Int) (N : Nat) (o : Rest) : Option (Df × List Tok) := match nameS (mustS wTable o) with
 | none => none
 | some (nm, r) => match colsS cp N (mustS mOpen (some r)) with
  | none => none
  | some (cs, r2) => tailS qf N nm cs r2
def allS (cp : Rest → Option (Col × List Tok)) (qf : List Col → ByteArray → Int) (N : Nat) : Nat → Rest → Option (List Df)
 | 0, _ => none
 | k + 1, o => match o with
  | none => none
  | some [] => some []
  | some (t :: r) => match defS cp qf N (some (t :: r)) with
   | none => none
   | some (x, r2) => (allS cp qf N k (some r2)).map fun v => x :: v
theorem isS_some (s : ByteArray) (r : List Tok) : ∃ r', (isS s (some r)).2 = some r' := by
 cases r with
 | nil => exact ⟨_, rfl⟩
 | cons t r =>
  simp only [isS]
  cases isT t.2 s <;> exact ⟨_, rfl⟩
theorem isS_true {s : ByteArray} {o : Rest} (h : (isS s o).1 = true) : ∃ t r, o = some (t :: r) ∧ t.2 = s ∧ (isS s o).2 = some r := by
 match o, h with
 | some (t :: r), h =>
  simp only [isS] at h ⊢
  cases c : isT t.2 s with
  | false => rw [c] at h; simp at h
  | true => exact ⟨t, r, rfl, isT_iff.1 c, rfl⟩
theorem isS_false {s : ByteArray} {o : Rest} (h : (isS s o).1 = false) : (isS s o).2 = o := by
 match o, h with
 | none, _ => rfl
 | some [], _ => rfl
 | some (t :: r), h =>
  simp only [isS] at h ⊢
  cases c : isT t.2 s with
  | false => rfl
  | true => rw [c] at h; simp at h
theorem mustS_some {s : ByteArray} {o : Rest} {r : List Tok} (h : mustS s o = some r) : ∃ t, o = some (t :: r) ∧ t.2 = s := by
 match o, h with
 | some (t :: r'), h =>
  simp only [mustS] at h
  cases c : isT t.2 s with
  | false => rw [c] at h; simp at h
  | true => rw [c] at h; simp at h; subst h; exact ⟨t, rfl, isT_iff.1 c⟩
theorem nameS_some {o : Rest} {v : ByteArray × List Tok} (h : nameS o = some v) : o = some ((1, v.1) :: v.2) := by
 match o, h with
 | some (t :: r'), h =>
  simp only [nameS] at h
  cases c : (t.1 == 1) with
  | false => rw [c] at h; simp at h
  | true =>
   rw [c] at h
   simp only [cond_true, Option.some.injEq] at h
   subst h
   have e : t.1 = 1 := by simpa using c
   obtain ⟨a, b⟩ := t
   simp only at e ⊢
   rw [e]
def tokOk (t : Tok) : Bool := tokM t.1 (bytesOf t.2)
theorem tok_word {t : Tok} (h : tokOk t = true) (hm : markM (bytesOf t.2) = false) : t = (1, t.2) := by
 unfold tokOk tokM at h
 split at h
 ·rename_i c; obtain ⟨a, b⟩ := t; simp only at c ⊢; rw [c]
 ·split at h
  ·rw [hm] at h; cases h
  ·cases h
theorem tok_mark {t : Tok} (h : tokOk t = true) (hn : nameM (bytesOf t.2).length 0 (bytesOf t.2) = false) : t = (2, t.2) := by
 unfold tokOk tokM at h
 split at h
 ·rw [hn] at h; cases h
 ·split at h
  ·rename_i c; obtain ⟨a, b⟩ := t; simp only at c ⊢; rw [c]
  ·cases h
theorem word_of {t : Tok} {s : ByteArray} (h : tokOk t = true) (e : t.2 = s) (hm : markM (bytesOf s) = false) : t = (1, s) := by
 subst e; exact tok_word h hm
theorem mark_of {t : Tok} {s : ByteArray} (h : tokOk t = true) (e : t.2 = s) (hn : nameM (bytesOf s).length 0 (bytesOf s) = false) : t = (2, s) := by
 subst e; exact tok_mark h hn
def toksOk (r : List Tok) : Prop := ∀ t ∈ r, tokOk t = true
theorem toksOk.tl {t : Tok} {r : List Tok} (h : toksOk (t :: r)) : toksOk r := fun x hx => h x (List.mem_cons_of_mem _ hx)
theorem toksOk.hd {t : Tok} {r : List Tok} (h : toksOk (t :: r)) : tokOk t = true := h t List.mem_cons_self
theorem toksOk.right {a r : List Tok} (h : toksOk (a ++ r)) : toksOk r := fun x hx => h x (List.mem_append_right _ hx)
theorem may_word {s : ByteArray} {r : List Tok} (hs : markM (bytesOf s) = false) (h : toksOk r) : ∃ r', (isS s (some r)).2 = some r' ∧ toksOk r' ∧ r = (bif (isS s (some r)).1 then [(1, s)] else []) ++ r' := by
 cases c : (isS s (some r)).1 with
 | false => exact ⟨r, isS_false c, h, rfl⟩
 | true =>
  obtain ⟨t, r', e, e2, e3⟩ := isS_true c
  obtain rfl := Option.some.inj e
  exact ⟨r', e3, h.tl, by rw [word_of h.hd e2 hs]; rfl⟩
theorem mark_there {s : ByteArray} {o : Rest} {r r' : List Tok} (hs : nameM (bytesOf s).length 0 (bytesOf s) = false) (ho : o = some r) (h : toksOk r) (hm : mustS s o = some r') : r = (2, s) :: r' ∧ toksOk r' := by
 obtain ⟨t, e, e2⟩ := mustS_some hm
 rw [ho] at e
 obtain rfl := Option.some.inj e
 exact ⟨by rw [mark_of h.hd e2 hs], h.tl⟩
theorem word_there {s : ByteArray} {o : Rest} {r r' : List Tok} (hs : markM (bytesOf s) = false) (ho : o = some r) (h : toksOk r) (hm : mustS s o = some r') : r = (1, s) :: r' ∧ toksOk r' := by
 obtain ⟨t, e, e2⟩ := mustS_some hm
 rw [ho] at e
 obtain rfl := Option.some.inj e
 exact ⟨by rw [word_of h.hd e2 hs], h.tl⟩
theorem marks_no : nameM (bytesOf mSemi).length 0 (bytesOf mSemi) = false ∧ nameM (bytesOf mComma).length 0 (bytesOf mComma) = false ∧ nameM (bytesOf mOpen).length 0 (bytesOf mOpen) = false ∧ nameM (bytesOf mClose).length 0 (bytesOf mClose) = false := by decide +kernel
theorem words_no : markM (bytesOf wDesc) = false ∧ markM (bytesOf wNull) = false ∧ markM (bytesOf wTable) = false ∧ markM (bytesOf wPrimary) = false ∧ markM (bytesOf wUnique) = false ∧ markM (bytesOf wIndex) = false := by decide +kernel
def qOk (cs : List Col) (q : ByteArray → Int) : Prop := ∀ nm, 0 ≤ q nm → q nm < cs.length → (colAt cs (q nm)).1 = nm
theorem partsS_sound {cs : List Col} {q : ByteArray → Int} (hq : qOk cs q) : ∀ (k : Nat) (r : List Tok) (ps : List By) (r' : List Tok), toksOk r → partsS q k (some r) = some (ps, r') → (∀ p ∈ ps, 0 ≤ p.1 ∧ p.1 < cs.length) → r = partsToks cs ps ++ r' ∧ toksOk r' ∧ ps ≠ []
 | 0, _, _, _, _, h, _ => by cases h
 | k + 1, r, ps, r', ht, h, hp => by
  rw [partsS] at h
  cases hn : nameS (some r) with
  | none => rw [hn] at h; cases h
  | some v =>
   obtain ⟨nm, r1⟩ := v
   rw [hn] at h
   have e := Option.some.inj (nameS_some hn)
   simp only at e h
   subst e
   obtain ⟨r2, e2, t2, d2⟩ := may_word words_no.1 ht.tl
   rw [e2] at h
   have pt : ∀ {p : By}, p.1 = q nm → p.2 = (isS wDesc (some r1)).1 → 0 ≤ p.1 → p.1 < cs.length → (1, nm) :: r1 = partToks cs p ++ r2 := fun {p} h1 h2 h3 h4 => by
    unfold partToks
    rw [h1, hq nm (by omega) (by omega), h2]
    rw [List.cons_append, ← d2]
   cases c : (isS mSemi (some r2)).1 with
   | true =>
    rw [c, cond_true] at h
    obtain ⟨t, r3, e3, e4, e5⟩ := isS_true c
    obtain rfl := Option.some.inj e3
    rw [e5] at h
    simp only [Option.map_some, Option.some.injEq, Prod.mk.injEq] at h
    obtain ⟨rfl, rfl⟩ := h
    have q1 := hp _ List.mem_cons_self
    refine ⟨?_, t2.tl, by simp⟩
    rw [pt (p := (q nm, (isS wDesc (some r1)).1)) rfl rfl q1.1 q1.2, partsToks, mark_of t2.hd e4 marks_no.1]
    simp
   | false =>
    rw [c, cond_false] at h
    cases hm : mustS mComma (some r2) with
    | none =>
     rw [hm] at h
     cases k <;> simp [partsS, nameS] at h
    | some r3 =>
     rw [hm] at h
     obtain ⟨e3, t3⟩ := mark_there marks_no.2.1 rfl t2 hm
     cases hr : partsS q k (some r3) with
     | none => rw [hr] at h; cases h
     | some w =>
      rw [hr] at h
      obtain ⟨ps2, r4⟩ := w
      simp only [Option.map_some, Option.some.injEq, Prod.mk.injEq] at h
      obtain ⟨rfl, rfl⟩ := h
      have ih := partsS_sound hq k r3 ps2 r4 t3 hr fun p hx => hp p (List.mem_cons_of_mem _ hx)
      have q1 := hp _ List.mem_cons_self
      refine ⟨?_, ih.2.1, by simp⟩
      rw [pt (p := (q nm, (isS wDesc (some r1)).1)) rfl rfl q1.1 q1.2, e3, ih.1]
      match ps2, ih.2.2 with
      | p :: ps3, _ =>
       rw [partsToks]
       simp
structure CpOk (cp : Rest → Option (Col × List Tok)) : Prop where
 sound : ∀ r c r', toksOk r → cp (some r) = some (c, r') → inB c.2.1 1 4 = true → r = colToks c ++ r'
 full : ∀ c r, inB c.2.1 1 4 = true → cp (some (colToks c ++ r)) = some (c, r)
theorem colsS_sound {cp : Rest → Option (Col × List Tok)} (hc : CpOk cp) : ∀ (k : Nat) (r : List Tok) (cs : List Col) (r' : List Tok), toksOk r → colsS cp k (some r) = some (cs, r') → (∀ c ∈ cs, inB c.2.1 1 4 = true) → r = cs.flatMap colToks ++ (1, wPrimary) :: r' ∧ toksOk r'
 | 0, _, _, _, _, h, _ => by cases h
 | k + 1, r, cs, r', ht, h, hp => by
  rw [colsS] at h
  cases c : (isS wPrimary (some r)).1 with
  | true =>
   rw [c, cond_true] at h
   obtain ⟨t, r3, e3, e4, e5⟩ := isS_true c
   obtain rfl := Option.some.inj e3
   rw [e5] at h
   simp only [Option.map_some, Option.some.injEq, Prod.mk.injEq] at h
   obtain ⟨rfl, rfl⟩ := h
   exact ⟨by rw [word_of ht.hd e4 words_no.2.2.2.1]; rfl, ht.tl⟩
  | false =>
   rw [c, cond_false] at h
   cases h1 : cp (some r) with
   | none => rw [h1] at h; cases h
   | some v =>
    obtain ⟨x, r2⟩ := v
    rw [h1] at h
    simp only at h
    cases h2 : colsS cp k (some r2) with
    | none => rw [h2] at h; cases h
    | some w =>
     obtain ⟨cs2, r3⟩ := w
     rw [h2] at h
     simp only [Option.map_some, Option.some.injEq, Prod.mk.injEq] at h
     obtain ⟨rfl, rfl⟩ := h
     have e := hc.sound r x r2 ht h1 (hp _ List.mem_cons_self)
     subst e
     have ih := colsS_sound hc k r2 cs2 r3 ht.right h2 fun c hx => hp c (List.mem_cons_of_mem _ hx)
     exact ⟨by rw [List.flatMap_cons, List.append_assoc, ← ih.1], ih.2⟩
theorem idxsS_sound {cs : List Col} {q : ByteArray → Int} (hq : qOk cs q) (N : Nat) : ∀ (k : Nat) (r : List Tok) (xs : List Ix) (r' : List Tok), toksOk r → idxsS q N k (some r) = some (xs, r') → (∀ x ∈ xs, ∀ p ∈ x.2.2, 0 ≤ p.1 ∧ p.1 < cs.length) → r = xs.flatMap (idxToks cs) ++ (2, mClose) :: r' ∧ toksOk r'
 | 0, _, _, _, _, h, _ => by cases h
 | k + 1, r, xs, r', ht, h, hp => by
  rw [idxsS] at h
  cases c : (isS mClose (some r)).1 with
  | true =>
   rw [c, cond_true] at h
   obtain ⟨t, r3, e3, e4, e5⟩ := isS_true c
   obtain rfl := Option.some.inj e3
   rw [e5] at h
   simp only [Option.map_some, Option.some.injEq, Prod.mk.injEq] at h
   obtain ⟨rfl, rfl⟩ := h
   exact ⟨by rw [mark_of ht.hd e4 marks_no.2.2.2]; rfl, ht.tl⟩
  | false =>
   rw [c, cond_false] at h
   cases h1 : idxS1 q N (some r) with
   | none => rw [h1] at h; cases h
   | some v =>
    obtain ⟨x, r2⟩ := v
    rw [h1] at h
    simp only at h
    cases h2 : idxsS q N k (some r2) with
    | none => rw [h2] at h; cases h
    | some w =>
     obtain ⟨xs2, r3⟩ := w
     rw [h2] at h
     simp only [Option.map_some, Option.some.injEq, Prod.mk.injEq] at h
     obtain ⟨rfl, rfl⟩ := h
     have one : r = idxToks cs x ++ r2 ∧ toksOk r2 := by
      unfold idxS1 at h1
      obtain ⟨ru, eu, tu, du⟩ := may_word words_no.2.2.2.2.1 ht
      have hst : ∃ w r1, (bif (isS wUnique (some r)).1 then (isS wUnique (some r)).2 else mustS wIndex (some r)) = some r1 ∧ r = (1, w) :: r1 ∧ toksOk r1 ∧ w = bif (isS wUnique (some r)).1 then wUnique else wIndex := by
       cases cu : (isS wUnique (some r)).1 with
       | true =>
        rw [cu] at du
        exact ⟨wUnique, ru, by rw [cond_true, eu], by simpa using du, tu, rfl⟩
       | false =>
        rw [cu, cond_false] at h1
        cases hm : mustS wIndex (some r) with
        | none => rw [hm] at h1; simp [nameS] at h1
        | some r1 =>
         obtain ⟨e, t⟩ := word_there words_no.2.2.2.2.2 rfl ht hm
         exact ⟨wIndex, r1, by rw [cond_false], e, t, rfl⟩
      obtain ⟨w, r1, e1, e2, t1, ew⟩ := hst
      rw [e1] at h1
      cases hn : nameS (some r1) with
      | none => rw [hn] at h1; cases h1
      | some v =>
       obtain ⟨nm, r4⟩ := v
       rw [hn] at h1
       simp only at h1
       have e := Option.some.inj (nameS_some hn)
       simp only at e
       subst e
       cases hr : partsS q N (some r4) with
       | none => rw [hr] at h1; cases h1
       | some w2 =>
        obtain ⟨ps, r5⟩ := w2
        rw [hr] at h1
        simp only [Option.map_some, Option.some.injEq, Prod.mk.injEq] at h1
        obtain ⟨rfl, rfl⟩ := h1
        have ps := partsS_sound hq N r4 ps r5 t1.tl hr (hp _ List.mem_cons_self)
        refine ⟨e2.trans ?_, ps.2.1⟩
        rw [ew]
        unfold idxToks
        simp only [List.cons_append]
        rw [← ps.1]
     have ih := idxsS_sound hq N k r2 xs2 r3 one.2 h2 fun x hx => hp x (List.mem_cons_of_mem _ hx)
     refine ⟨?_, ih.2⟩
     rw [List.flatMap_cons, List.append_assoc, ← ih.1]
     exact one.1
def qfOk (qf : List Col → ByteArray → Int) : Prop := ∀ cs, qOk cs (qf cs)
theorem defS_sound {cp : Rest → Option (Col × List Tok)} (hc : CpOk cp) {qf : List Col → ByteArray → Int} (hq : qfOk qf) {N : Nat} {r : List Tok} {x : Df} {r' : List Tok} (ht : toksOk r) (h : defS cp qf N (some r) = some (x, r')) (g : goodM x) : r = defToks x ++ r' ∧ toksOk r' := by
 unfold defS at h
 cases h0 : mustS wTable (some r) with
 | none => rw [h0] at h; simp [nameS] at h
 | some r0 =>
  rw [h0] at h
  obtain ⟨e0, t0⟩ := word_there words_no.2.2.1 rfl ht h0
  cases hn : nameS (some r0) with
  | none => rw [hn] at h; cases h
  | some v =>
   obtain ⟨nm, r1⟩ := v
   rw [hn] at h
   simp only at h
   have e := Option.some.inj (nameS_some hn)
   simp only at e
   subst e
   cases hm : mustS mOpen (some r1) with
   | none => rw [hm] at h; cases N <;> simp [colsS] at h
   | some r2 =>
    rw [hm] at h
    obtain ⟨e2, t2⟩ := mark_there marks_no.2.2.1 rfl t0.tl hm
    cases hcs : colsS cp N (some r2) with
    | none => rw [hcs] at h; cases h
    | some v =>
     obtain ⟨cs, r3⟩ := v
     rw [hcs] at h
     simp only at h
     unfold tailS at h
     cases hps : partsS (qf cs) N (some r3) with
     | none => rw [hps] at h; cases h
     | some v =>
      obtain ⟨ps, r4⟩ := v
      rw [hps] at h
      simp only at h
      cases hxs : idxsS (qf cs) N N (some r4) with
      | none => rw [hxs] at h; cases h
      | some v =>
       obtain ⟨xs, r5⟩ := v
       rw [hxs] at h
       simp only [Option.map_some, Option.some.injEq, Prod.mk.injEq] at h
       obtain ⟨rfl, rfl⟩ := h
       have s1 := colsS_sound hc N r2 cs r3 t2 hcs g.types.1
       have s2 := partsS_sound (hq cs) N r3 ps r4 s1.2 hps (partsM_in g.parts.1)
       have s3 := idxsS_sound (hq cs) N N r4 xs r5 s2.2.1 hxs fun y hy => partsM_in (g.parts.2 y hy)
       refine ⟨?_, s3.2⟩
       rw [e0, e2, s1.1, s2.1, s3.1]
       unfold defToks
       simp
theorem firstR_good (l : List Df) : ∀ (r : List Df) (i : Nat), firstR l i r = -1 → ∀ x ∈ r, goodM x
 | [], _, _, x, hx => by cases hx
 | y :: r, i, h, x, hx => by
  rw [firstR] at h
  cases c : (decide (checkM y = 0) && decide (i ≤ 2)) with
  | false => rw [c, cond_false] at h; omega
  | true =>
   rw [c, cond_true] at h
   cases c2 : (l.take i).any (fun e => isT e.1 y.1) with
   | true => rw [c2, cond_true] at h; omega
   | false =>
    rw [c2, cond_false] at h
    rw [Bool.and_eq_true, decide_eq_true_iff] at c
    rcases List.mem_cons.1 hx with e | hx
    ·rw [e]; exact checkM_iff.1 c.1
    ·exact firstR_good l r (i + 1) h x hx
theorem allS_sound {cp : Rest → Option (Col × List Tok)} (hc : CpOk cp) {qf : List Col → ByteArray → Int} (hq : qfOk qf) (N : Nat) : ∀ (k : Nat) (r : List Tok) (out : List Df), toksOk r → allS cp qf N k (some r) = some out → (∀ x ∈ out, goodM x) → r = allToks out
 | 0, _, _, _, h, _ => by cases h
 | k + 1, [], out, _, h, _ => by
  simp only [allS, Option.some.injEq] at h
  subst h; rfl
 | k + 1, t :: r, out, ht, h, hg => by
  simp only [allS] at h
  cases h1 : defS cp qf N (some (t :: r)) with
  | none => rw [h1] at h; cases h
  | some v =>
   obtain ⟨x, r2⟩ := v
   rw [h1] at h
   simp only at h
   cases h2 : allS cp qf N k (some r2) with
   | none => rw [h2] at h; cases h
   | some l =>
    rw [h2] at h
    simp only [Option.map_some, Option.some.injEq] at h
    subst h
    have s := defS_sound hc hq ht h1 (hg x List.mem_cons_self)
    have ih := allS_sound hc hq N k r2 l s.2 h2 fun y hy => hg y (List.mem_cons_of_mem _ hy)
    rw [s.1, ih]
    simp [allToks]
theorem isS_hit (s : ByteArray) (k : Int) (r : List Tok) : isS s (some ((k, s) :: r)) = (true, some r) := by
 simp only [isS]; rw [isT_iff.2 rfl]; rfl
theorem isS_miss {s s' : ByteArray} (h : s' ≠ s) (k : Int) (r : List Tok) : isS s (some ((k, s') :: r)) = (false, some ((k, s') :: r)) := by
 simp only [isS]
 cases c : isT s' s with
 | true => exact absurd (isT_iff.1 c) h
 | false => rfl
theorem mustS_hit (s : ByteArray) (k : Int) (r : List Tok) : mustS s (some ((k, s) :: r)) = some r := by
 simp only [mustS]; rw [isT_iff.2 rfl]; rfl
theorem nameS_hit (s : ByteArray) (r : List Tok) : nameS (some ((1, s) :: r)) = some (s, r) := rfl
theorem isS_opt {s s' : ByteArray} (h : s' ≠ s) (b : Bool) (k : Int) (r : List Tok) : isS s (some ((bif b then [((1 : Int), s)] else []) ++ (k, s') :: r)) = (b, some ((k, s') :: r)) := by
 cases b
 ·exact isS_miss h k r
 ·exact isS_hit s 1 _
theorem ne_of {a b : ByteArray} (h : decide (a.data.toList = b.data.toList) = false) : a ≠ b := fun e => by
 subst e; simp at h
theorem semi_ne_desc : mSemi ≠ wDesc := ne_of (by decide +kernel)
theorem comma_ne_desc : mComma ≠ wDesc := ne_of (by decide +kernel)
theorem comma_ne_semi : mComma ≠ mSemi := ne_of (by decide +kernel)
theorem semi_ne_null : mSemi ≠ wNull := ne_of (by decide +kernel)
theorem unique_ne_close : wUnique ≠ mClose := ne_of (by decide +kernel)
theorem index_ne_close : wIndex ≠ mClose := ne_of (by decide +kernel)
theorem index_ne_unique : wIndex ≠ wUnique := ne_of (by decide +kernel)
theorem partsS_full {cs : List Col} {q : ByteArray → Int} {ps : List By} (hq : ∀ p ∈ ps, q (colAt cs p.1).1 = p.1) (hl : 1 ≤ ps.length ∧ ps.length ≤ 2) (r : List Tok) : ∀ k, 2 ≤ k → partsS q k (some (partsToks cs ps ++ r)) = some (ps, r) := by
 intro k hk
 obtain ⟨k, rfl⟩ : ∃ m, k = m + 1 + 1 := ⟨k - 2, by omega⟩
 match ps, hq, hl with
 | [p], hq, _ =>
  rw [partsS, partsToks, partToks]
  simp only [List.cons_append, nameS_hit, List.append_assoc, List.nil_append]
  rw [isS_opt semi_ne_desc]
  simp only [isS_hit, cond_true, Option.map_some]
  rw [hq p List.mem_cons_self]
 | [p, p2], hq, _ =>
  rw [partsS, partsToks, partToks]
  simp only [List.cons_append, nameS_hit, List.append_assoc]
  rw [isS_opt comma_ne_desc]
  simp only [isS_miss comma_ne_semi, cond_false, mustS_hit]
  rw [partsS, partsToks, partToks]
  simp only [List.cons_append, nameS_hit, List.append_assoc, List.nil_append]
  rw [isS_opt semi_ne_desc]
  simp only [isS_hit, cond_true, Option.map_some]
  rw [hq p List.mem_cons_self, hq p2 (List.mem_cons_of_mem _ List.mem_cons_self)]
 | [], _, h => exact absurd h.1 (by simp)
 | _ :: _ :: _ :: _, _, h => exact absurd h.2 (by simp only [List.length_cons]; omega)
theorem free_not {s : ByteArray} (h : freeM s = true) : ∀ w ∈ wordsL, s ≠ w := by
 intro w hw e
 unfold freeM at h
 rw [Bool.and_eq_true, Bool.not_eq_true', List.any_eq_false] at h
 exact h.2 w hw (isT_iff.2 e.symm)
theorem colsS_full {cp : Rest → Option (Col × List Tok)} (hc : CpOk cp) (r : List Tok) : ∀ (cs : List Col) (k : Nat), (∀ c ∈ cs, inB c.2.1 1 4 = true ∧ c.1 ≠ wPrimary) → cs.length < k → colsS cp k (some (cs.flatMap colToks ++ (1, wPrimary) :: r)) = some (cs, r)
 | [], k, _, hk => by
  obtain ⟨k, rfl⟩ : ∃ m, k = m + 1 := ⟨k - 1, by simp at hk; omega⟩
  rw [colsS]
  simp only [List.flatMap_nil, List.nil_append, isS_hit, cond_true, Option.map_some]
 | c :: cs, k, h, hk => by
  obtain ⟨k, rfl⟩ : ∃ m, k = m + 1 := ⟨k - 1, by simp at hk; omega⟩
  have hc1 := h c List.mem_cons_self
  have ih := colsS_full hc r cs k (fun x hx => h x (List.mem_cons_of_mem _ hx)) (by simp only [List.length_cons] at hk; omega)
  rw [colsS, List.flatMap_cons, List.append_assoc]
  have m : (isS wPrimary (some (colToks c ++ (cs.flatMap colToks ++ (1, wPrimary) :: r)))).1 = false := by
   unfold colToks
   rw [List.cons_append, isS_miss hc1.2]
  simp only [m, cond_false, hc.full c _ hc1.1, ih, Option.map_some]
theorem idxsS_full {cs : List Col} {q : ByteArray → Int} (N : Nat) (hN : 2 ≤ N) (r : List Tok) : ∀ (xs : List Ix) (k : Nat), (∀ x ∈ xs, (∀ p ∈ x.2.2, q (colAt cs p.1).1 = p.1) ∧ 1 ≤ x.2.2.length ∧ x.2.2.length ≤ 2) → xs.length < k → idxsS q N k (some (xs.flatMap (idxToks cs) ++ (2, mClose) :: r)) = some (xs, r)
 | [], k, _, hk => by
  obtain ⟨k, rfl⟩ : ∃ m, k = m + 1 := ⟨k - 1, by simp at hk; omega⟩
  rw [idxsS]
  simp only [List.flatMap_nil, List.nil_append, isS_hit, cond_true, Option.map_some]
 | x :: xs, k, h, hk => by
  obtain ⟨k, rfl⟩ : ∃ m, k = m + 1 := ⟨k - 1, by simp at hk; omega⟩
  have hx := h x List.mem_cons_self
  have ih := idxsS_full (cs := cs) N hN r xs k (fun y hy => h y (List.mem_cons_of_mem _ hy)) (by simp only [List.length_cons] at hk; omega)
  rw [idxsS, List.flatMap_cons, List.append_assoc]
  have pf := fun r => partsS_full (q := q) (ps := x.2.2) hx.1 hx.2 r N hN
  have one : idxS1 q N (some (idxToks cs x ++ (xs.flatMap (idxToks cs) ++ (2, mClose) :: r))) = some (x, xs.flatMap (idxToks cs) ++ (2, mClose) :: r) := by
   unfold idxS1 idxToks
   cases c : x.2.1 with
   | true =>
    simp only [cond_true, List.cons_append, isS_hit, nameS_hit, pf, Option.map_some]
    rw [← c]
   | false =>
    simp only [cond_false, List.cons_append, isS_miss index_ne_unique, mustS_hit, nameS_hit, pf, Option.map_some]
    rw [← c]
  have m : (isS mClose (some (idxToks cs x ++ (xs.flatMap (idxToks cs) ++ (2, mClose) :: r)))).1 = false := by
   unfold idxToks
   cases x.2.1
   ·rw [cond_false, List.cons_append, isS_miss index_ne_close]
   ·rw [cond_true, List.cons_append, isS_miss unique_ne_close]
  simp only [m, cond_false, one, ih, Option.map_some]
def qfFull (qf : List Col → ByteArray → Int) : Prop := ∀ cs, onceR [] (cs.map (·.1)) = true → ∀ i : Int, 0 ≤ i → i < cs.length → qf cs (colAt cs i).1 = i
theorem defS_full {cp : Rest → Option (Col × List Tok)} (hc : CpOk cp) {qf : List Col → ByteArray → Int} (hq : qfFull qf) {N : Nat} (hN : 7 ≤ N) {x : Df} (g : goodM x) (r : List Tok) : defS cp qf N (some (defToks x ++ r)) = some (x, r) := by
 have t := g.types
 obtain ⟨p1, p2⟩ := g.parts
 have n := g.names
 have o : onceR [] (x.2.1.map (·.1)) = true := by
  have := g.2.2.1
  unfold onceM at this
  rw [Bool.and_eq_true] at this
  exact this.1
 have fits : ∀ ps, partsM x.2.1.length ps = true → ∀ p ∈ ps, qf x.2.1 (colAt x.2.1 p.1).1 = p.1 := fun ps h p hp => hq _ o p.1 (partsM_in h p hp).1 (partsM_in h p hp).2
 unfold defS defToks
 simp only [List.cons_append, mustS_hit, nameS_hit, List.append_assoc]
 rw [colsS_full hc _ _ _ (fun c hc => ⟨t.1 c hc, free_not (n.2.1 c hc) _ (by unfold wordsL wPrimary; simp)⟩) (by omega)]
 simp only [tailS]
 rw [partsS_full (fits _ p1) (partsM_len p1) _ N (by omega)]
 simp only [List.nil_append]
 rw [idxsS_full N (by omega) _ _ _ (fun y hy => ⟨fits _ (p2 y hy), partsM_len (p2 y hy)⟩) (by have := g.2.2.2.1; omega)]
 rfl
theorem allS_full {cp : Rest → Option (Col × List Tok)} (hc : CpOk cp) {qf : List Col → ByteArray → Int} (hq : qfFull qf) {N : Nat} (hN : 7 ≤ N) : ∀ (l : List Df) (k : Nat), (∀ x ∈ l, goodM x) → l.length < k → allS cp qf N k (some (allToks l)) = some l
 | [], k, _, hk => by
  obtain ⟨k, rfl⟩ : ∃ m, k = m + 1 := ⟨k - 1, by simp at hk; omega⟩
  rfl
 | x :: l, k, h, hk => by
  obtain ⟨k, rfl⟩ : ∃ m, k = m + 1 := ⟨k - 1, by simp at hk; omega⟩
  have ih := allS_full hc hq hN l k (fun y hy => h y (List.mem_cons_of_mem _ hy)) (by simp only [List.length_cons] at hk; omega)
  have d := defS_full hc hq hN (h x List.mem_cons_self) (allToks l)
  have e : allToks (x :: l) = defToks x ++ allToks l := by simp [allToks]
  rw [e]
  unfold defToks at d ⊢
  simp only [List.cons_append] at d ⊢
  simp only [allS]
  rw [d]
  simp only [ih, Option.map_some]
theorem tyNo_at : ∀ t : Int, inB t 1 4 = true → tyNo (tyAt t) = t := by
 intro t h
 have := inB_iff.1 h
 have : t = 1 ∨ t = 2 ∨ t = 3 ∨ t = 4 := by omega
 rcases this with e | e | e | e <;> subst e <;> decide +kernel
theorem tyNo_of {s : ByteArray} (h : tyNo s ≠ 0) : s = tyAt (tyNo s) ∧ inB (tyNo s) 1 4 = true := by
 unfold tyNo at h ⊢
 cases c1 : isT s (tyAt 1) with
 | true => exact ⟨isT_iff.1 c1, rfl⟩
 | false =>
  cases c2 : isT s (tyAt 2) with
  | true => exact ⟨isT_iff.1 c2, rfl⟩
  | false =>
   cases c3 : isT s (tyAt 3) with
   | true => exact ⟨isT_iff.1 c3, rfl⟩
   | false =>
    cases c4 : isT s (tyAt 4) with
    | true => exact ⟨isT_iff.1 c4, rfl⟩
    | false => rw [c1, c2, c3, c4] at h; exact absurd rfl h
theorem tyAt_word : ∀ t : Int, inB t 1 4 = true → markM (bytesOf (tyAt t)) = false := by
 intro t h
 have := inB_iff.1 h
 have : t = 1 ∨ t = 2 ∨ t = 3 ∨ t = 4 := by omega
 rcases this with e | e | e | e <;> subst e <;> decide +kernel
theorem null_semi {r2 r' : List Tok} (ht : toksOk r2) (h : mustS mSemi (isS wNull (some r2)).2 = some r') : r2 = (bif (isS wNull (some r2)).1 then [((1 : Int), wNull)] else []) ++ (2, mSemi) :: r' := by
 obtain ⟨r3, e3, t3, d3⟩ := may_word words_no.2.1 ht
 rw [e3] at h
 have := mark_there marks_no.1 rfl t3 h
 rw [← this.1]; exact d3
theorem colI_ok : CpOk colI where
 sound r c r' ht h hty := by
  unfold colI at h
  cases hn : nameS (some r) with
  | none => rw [hn] at h; cases h
  | some v =>
   obtain ⟨nm, r1⟩ := v
   rw [hn] at h
   have e := Option.some.inj (nameS_some hn)
   simp only at e h
   subst e
   cases hn2 : nameS (some r1) with
   | none => rw [hn2] at h; cases h
   | some v =>
    obtain ⟨ty, r2⟩ := v
    rw [hn2] at h
    have e := Option.some.inj (nameS_some hn2)
    simp only at e h
    subst e
    cases c0 : (tyNo ty == 0) with
    | true => rw [c0] at h; cases h
    | false =>
     rw [c0, cond_false] at h
     cases hm : mustS mSemi (isS wNull (some r2)).2 with
     | none => rw [hm] at h; cases h
     | some r3 =>
      rw [hm] at h
      simp only [Option.map_some, Option.some.injEq, Prod.mk.injEq] at h
      obtain ⟨rfl, rfl⟩ := h
      have q := null_semi ht.tl.tl hm
      have ne : tyNo ty ≠ 0 := by simpa using c0
      unfold colToks
      simp only [← (tyNo_of ne).1, List.cons_append, List.append_assoc, List.nil_append]
      rw [← q]
 full c r hty := by
  unfold colI colToks
  simp only [List.cons_append, nameS_hit, tyNo_at _ hty, List.append_assoc, List.nil_append]
  have := inB_iff.1 hty
  rw [show (c.2.1 == 0) = false by simp; omega, cond_false, isS_opt semi_ne_null]
  simp only [mustS_hit, Option.map_some]
theorem colS1_ok : CpOk colS1 where
 sound r c r' ht h hty := by
  unfold colS1 at h
  cases hn : nameS (some r) with
  | none => rw [hn] at h; cases h
  | some v =>
   obtain ⟨nm, r1⟩ := v
   rw [hn] at h
   have e := Option.some.inj (nameS_some hn)
   simp only at e h
   subst e
   cases hm : mustS mSemi (isS wNull (some (tySkip r1).2)).2 with
   | none => rw [hm] at h; cases h
   | some r3 =>
    rw [hm] at h
    simp only [Option.map_some, Option.some.injEq, Prod.mk.injEq] at h
    obtain ⟨rfl, rfl⟩ := h
    simp only at hty
    have b := inB_iff.1 hty
    match r1, ht, hm, hty, b with
    | [], _, _, _, b => simp [tySkip] at b
    | t :: r2, ht, hm, hty, b =>
     cases c0 : (tyNo t.2 == 0) with
     | true => simp only [tySkip] at b; rw [c0] at b; simp at b
     | false =>
      simp only [tySkip, c0, cond_false] at hm hty ⊢
      have ne : tyNo t.2 ≠ 0 := by simpa using c0
      have q := null_semi ht.tl.tl hm
      have w := tyNo_of ne
      have tw : t = (1, t.2) := tok_word ht.tl.hd (by rw [w.1]; exact tyAt_word _ w.2)
      unfold colToks
      simp only [← w.1, List.cons_append, List.append_assoc, List.nil_append]
      rw [← q, ← tw]
 full c r hty := by
  unfold colS1 colToks
  have := inB_iff.1 hty
  have z : (c.2.1 == 0) = false := by simp; omega
  simp only [List.cons_append, nameS_hit, tySkip, tyNo_at _ hty, z, cond_false, List.append_assoc, List.nil_append]
  rw [isS_opt semi_ne_null]
  simp only [mustS_hit, Option.map_some]
def runM : List Int → Nat
 | [] => 0
 | c :: r => if inB c 97 122 = true ∨ inB c 48 57 = true then runM r + 1 else 0
theorem runM_le : ∀ l, runM l ≤ l.length
 | [] => Nat.le_refl _
 | c :: r => by
  have := runM_le r
  simp only [runM, List.length_cons]
  split <;> omega
def blankM (c : Int) : Bool := c == 32 || (c == 9 || (c == 10 || c == 13))
def lexB : Nat → List Int → Nat → List Tok → List Tok × Int
 | 0, w, i, t => if w = [] then (t, -1) else ([], (i : Int))
 | _ + 1, [], _, t => (t, -1)
 | n + 1, c :: w, i, t => if blankM c = true then lexB n w (i + 1) t else
   if inB c 97 122 = true then (if tokM 1 (c :: w.take (runM w)) = true then (if t.length = 500 then ([], (i : Int)) else lexB n (w.drop (runM w)) (i + 1 + runM w) (t ++ [(1, numsStr (c :: w.take (runM w)))])) else ([], (i : Int)))
   else (if tokM 2 [c] = true then (if t.length = 500 then ([], (i : Int)) else lexB n w (i + 1) (t ++ [(2, numsStr [c])])) else ([], (i : Int)))
theorem lexB_nil (n i : Nat) (t : List Tok) : lexB n [] i t = (t, -1) := by cases n <;> simp [lexB]
theorem lexB_facts : ∀ (n : Nat) (w : List Int) (i : Nat) (t : List Tok), (∀ b ∈ w, 0 ≤ b ∧ b ≤ 255) → toksOk t → t.length ≤ 500 → toksOk (lexB n w i t).1 ∧ (lexB n w i t).1.length ≤ 500 ∧ ((lexB n w i t).2 = -1 ∨ (lexB n w i t).1 = [] ∧ 0 ≤ (lexB n w i t).2)
 | 0, w, i, t, hb, h, hl => by
  simp only [lexB]
  split
  ·exact ⟨h, hl, .inl rfl⟩
  ·exact ⟨fun x hx => (by cases hx), Nat.zero_le _, .inr ⟨rfl, by simp only; omega⟩⟩
 | n + 1, [], i, t, hb, h, hl => ⟨h, hl, .inl rfl⟩
 | n + 1, c :: w, i, t, hb, h, hl => by
  have hw : ∀ b ∈ w, 0 ≤ b ∧ b ≤ 255 := fun b hx => hb b (List.mem_cons_of_mem _ hx)
  have bad : toksOk (([] : List Tok), (i : Int)).1 ∧ (([] : List Tok), (i : Int)).1.length ≤ 500 ∧ ((([] : List Tok), (i : Int)).2 = -1 ∨ (([] : List Tok), (i : Int)).1 = [] ∧ 0 ≤ (([] : List Tok), (i : Int)).2) := ⟨fun x hx => (by cases hx), Nat.zero_le _, .inr ⟨rfl, by simp only; omega⟩⟩
  have add : ∀ k b, (∀ x ∈ b, 0 ≤ x ∧ x ≤ 255) → tokM k b = true → toksOk (t ++ [(k, numsStr b)]) := fun k b hx ht y hy => by
   rcases List.mem_append.1 hy with hy | hy
   ·exact h y hy
   ·rw [List.mem_singleton] at hy
    rw [hy]
    show tokM k (bytesOf (strOfNums b)) = true
    rw [bytesOf_strOf b hx]; exact ht
  simp only [lexB]
  split
  ·exact lexB_facts n w (i + 1) t hw h hl
  ·split
   ·split
    ·rename_i ht
     split
     ·exact bad
     ·refine lexB_facts n _ _ _ (fun b hx => hw b (List.mem_of_mem_drop hx)) (add _ _ (fun x hx => ?_) ht) (by simp only [List.length_append, List.length_cons, List.length_nil]; omega)
      rcases List.mem_cons.1 hx with e | hx
      ·rw [e]; exact hb c List.mem_cons_self
      ·exact hw x (List.mem_of_mem_take hx)
    ·exact bad
   ·split
    ·rename_i ht
     split
     ·exact bad
     ·exact lexB_facts n _ _ _ hw (add _ _ (fun x hx => by rw [List.mem_singleton.1 hx]; exact hb c List.mem_cons_self) ht) (by simp only [List.length_append, List.length_cons, List.length_nil]; omega)
    ·exact bad
def lexT (s : ByteArray) : List Tok × Int := lexB s.size (bytesOf s) 0 []
def Lx (w : List Int) (ts : List Tok) : Prop := ∀ n i t, w.length ≤ n → t.length + ts.length ≤ 500 → lexB n w i t = (t ++ ts, -1)
theorem Lx.nil : Lx [] [] := fun n i t _ _ => by rw [lexB_nil, List.append_nil]
theorem Lx.blank {c : Int} {w : List Int} {ts : List Tok} (hc : blankM c = true) (h : Lx w ts) : Lx (c :: w) ts := fun n i t hn ht => by
 obtain ⟨n, rfl⟩ : ∃ m, n = m + 1 := ⟨n - 1, by simp only [List.length_cons] at hn; omega⟩
 rw [lexB, if_pos hc]
 exact h n _ t (by simp only [List.length_cons] at hn; omega) ht
theorem Lx.mark {c : Int} {w : List Int} {ts : List Tok} (hc : blankM c = false) (hl : inB c 97 122 = false) (hm : markM [c] = true) (h : Lx w ts) : Lx (c :: w) ((2, numsStr [c]) :: ts) := fun n i t hn ht => by
 obtain ⟨n, rfl⟩ : ∃ m, n = m + 1 := ⟨n - 1, by simp only [List.length_cons] at hn; omega⟩
 simp only [List.length_cons] at ht hn
 have e : tokM 2 [c] = true := by unfold tokM; rw [if_neg (by decide), if_pos rfl]; exact hm
 rw [lexB, if_neg (by rw [hc]; simp), if_neg (by rw [hl]; simp), if_pos e, if_neg (by omega)]
 rw [h n _ _ (by omega) (by simp only [List.length_append, List.length_cons, List.length_nil]; omega)]
 simp
def endsN (w : List Int) : Prop := w = [] ∨ ∃ c r, w = c :: r ∧ inB c 97 122 = false ∧ inB c 48 57 = false
theorem runM_app : ∀ (a r : List Int), (∀ c ∈ a, inB c 97 122 = true ∨ inB c 48 57 = true) → endsN r → runM (a ++ r) = a.length
 | [], r, _, hr => by
  rcases hr with rfl | ⟨c, r, rfl, h1, h2⟩
  ·rfl
  ·simp [runM, h1, h2]
 | c :: a, r, h, hr => by
  have ih := runM_app a r (fun x hx => h x (List.mem_cons_of_mem _ hx)) hr
  rw [List.cons_append, runM, ih, if_pos (h c List.mem_cons_self), List.length_cons]
theorem nameM_rest (n : Int) : ∀ (a : List Int) (i : Nat), 0 < i → nameM n i a = true → ∀ c ∈ a, inB c 97 122 = true ∨ inB c 48 57 = true
 | [], i, _, h => by simp
 | c :: a, i, hi, h => by
  rw [nameM] at h
  split at h
  ·rename_i h1
   have := nameM_rest n a (i + 1) (by omega) h
   exact fun x hx => by rcases List.mem_cons.1 hx with rfl | hx; exact Or.inl h1; exact this x hx
  ·split at h
   ·omega
   ·split at h
    ·rename_i h1
     have := nameM_rest n a (i + 1) (by omega) h
     exact fun x hx => by rcases List.mem_cons.1 hx with rfl | hx; exact Or.inr h1; exact this x hx
    ·cases h
theorem Lx.name {b w : List Int} {ts : List Tok} (hb : nameM b.length 0 b = true) (he : endsN w) (h : Lx w ts) : Lx (b ++ w) ((1, numsStr b) :: ts) := fun n i t hn ht => by
 match b, hb with
 | [], hb => simp [nameM, inB] at hb
 | c :: a, hb =>
  obtain ⟨n, rfl⟩ : ∃ m, n = m + 1 := ⟨n - 1, by simp only [List.cons_append, List.length_cons] at hn; omega⟩
  simp only [List.length_cons, List.cons_append, List.length_append] at ht hn
  have hl : inB c 97 122 = true ∧ nameM ((c :: a).length : Nat) 1 a = true := by
   rw [nameM] at hb
   split at hb
   ·rename_i h1; exact ⟨h1, hb⟩
   ·rw [if_pos rfl] at hb; cases hb
  have hrest := nameM_rest _ a 1 (by omega) hl.2
  have nb : ¬ blankM c = true := by
   have := inB_iff.1 hl.1
   unfold blankM
   simp; omega
  have ok : tokM 1 (c :: a) = true := by unfold tokM; rw [if_pos rfl]; exact hb
  rw [List.cons_append, lexB, if_neg nb, if_pos hl.1, runM_app a w hrest he, List.take_left, List.drop_left, if_pos ok, if_neg (by omega)]
  rw [h n _ _ (by omega) (by simp only [List.length_append, List.length_cons, List.length_nil]; omega)]
  simp
theorem Lx.lex {s : ByteArray} {ts : List Tok} (h : Lx (bytesOf s) ts) (hl : ts.length ≤ 500) : lexT s = (ts, -1) := by
 unfold lexT
 rw [h _ _ _ (by rw [bytesOf_length]; exact Nat.le_refl _) (by simpa using hl)]
 rfl
theorem bytes_app (a b : ByteArray) : bytesOf (a ++ b) = bytesOf a ++ bytesOf b := by
 simp [strNums, ByteArray.data_append]
def sp : Int := 32
theorem blank_sp : blankM 32 = true := by decide
theorem ends_sp (w : List Int) : endsN (32 :: w) := .inr ⟨32, w, rfl, by decide, by decide⟩
theorem ends_comma (w : List Int) : endsN (44 :: w) := .inr ⟨44, w, rfl, by decide, by decide⟩
theorem ends_semi (w : List Int) : endsN (59 :: w) := .inr ⟨59, w, rfl, by decide, by decide⟩
theorem Lx.name' {s : ByteArray} {w : List Int} {ts : List Tok} (hb : nameM s.size 0 (bytesOf s) = true) (he : endsN w) (h : Lx w ts) : Lx (bytesOf s ++ w) ((1, s) :: ts) := by
 have := Lx.name (b := bytesOf s) (by rw [bytesOf_length]; exact hb) he h
 rwa [show numsStr (bytesOf s) = s from strOf_bytesOf s] at this
theorem Lx.semi {w : List Int} {ts : List Tok} (h : Lx w ts) : Lx (59 :: 32 :: w) ((2, mSemi) :: ts) := Lx.mark (c := 59) (by decide) (by decide) (by decide) (h.blank blank_sp)
theorem free_name {s : ByteArray} (h : freeM s = true) : nameM s.size 0 (bytesOf s) = true := by
 unfold freeM at h; rw [Bool.and_eq_true] at h; exact h.1
theorem tyAt_name : ∀ t : Int, inB t 1 4 = true → nameM (tyAt t).size 0 (bytesOf (tyAt t)) = true := by
 intro t h
 have := inB_iff.1 h
 have : t = 1 ∨ t = 2 ∨ t = 3 ∨ t = 4 := by omega
 rcases this with e | e | e | e <;> subst e <;> decide +kernel
def colBy (c : Col) : List Int := bytesOf c.1 ++ 32 :: (bytesOf (tyAt c.2.1) ++ ((bif c.2.2 then 32 :: bytesOf wNull else []) ++ [59, 32]))
theorem colS_bytes (s : ByteArray) (c : Col) : bytesOf (colS s c) = bytesOf s ++ colBy c := by
 have e1 : bytesOf (⟨#[32]⟩ : ByteArray) = [32] := by decide +kernel
 have e2 : bytesOf (⟨#[32, 110, 117, 108, 108]⟩ : ByteArray) = 32 :: bytesOf wNull := by decide +kernel
 have e3 : bytesOf (⟨#[59, 32]⟩ : ByteArray) = [59, 32] := by decide +kernel
 unfold colS colBy
 cases c.2.2 <;> simp only [cond_true, cond_false, bytes_app, e1, e2, e3] <;> simp
theorem foldl_bytes {β : Type} (f : ByteArray → β → ByteArray) (g : β → List Int) (h : ∀ s x, bytesOf (f s x) = bytesOf s ++ g x) : ∀ (l : List β) (s : ByteArray), bytesOf (l.foldl f s) = bytesOf s ++ l.flatMap g
 | [], s => by simp
 | x :: r, s => by rw [List.foldl_cons, foldl_bytes f g h r, h, List.flatMap_cons, List.append_assoc]
theorem null_name : nameM wNull.size 0 (bytesOf wNull) = true ∧ nameM wDesc.size 0 (bytesOf wDesc) = true ∧ nameM wTable.size 0 (bytesOf wTable) = true ∧ nameM wPrimary.size 0 (bytesOf wPrimary) = true ∧ nameM wUnique.size 0 (bytesOf wUnique) = true ∧ nameM wIndex.size 0 (bytesOf wIndex) = true := by decide +kernel
theorem Lx.col {c : Col} {w : List Int} {ts : List Tok} (hf : freeM c.1 = true) (ht : inB c.2.1 1 4 = true) (h : Lx w ts) : Lx (colBy c ++ w) (colToks c ++ ts) := by
 unfold colBy colToks
 simp only [List.append_assoc, List.cons_append, List.nil_append]
 refine Lx.name' (free_name hf) (ends_sp _) (Lx.blank blank_sp ?_)
 cases c.2.2 with
 | true =>
  simp only [cond_true, List.cons_append, List.nil_append]
  exact Lx.name' (tyAt_name _ ht) (ends_sp _) (Lx.blank blank_sp (Lx.name' null_name.1 (ends_semi _) h.semi))
 | false =>
  simp only [cond_false, List.nil_append]
  exact Lx.name' (tyAt_name _ ht) (ends_semi _) h.semi
theorem Lx.cols {w : List Int} {ts : List Tok} (h : Lx w ts) : ∀ (cs : List Col), (∀ c ∈ cs, freeM c.1 = true ∧ inB c.2.1 1 4 = true) → Lx (cs.flatMap colBy ++ w) (cs.flatMap colToks ++ ts)
 | [], _ => h
 | c :: cs, hc => by
  rw [List.flatMap_cons, List.flatMap_cons, List.append_assoc, List.append_assoc]
  exact Lx.col (hc c List.mem_cons_self).1 (hc c List.mem_cons_self).2 (Lx.cols h cs fun x hx => hc x (List.mem_cons_of_mem _ hx))
theorem Lx.parts {cs : List Col} (hn : ∀ c ∈ cs, freeM c.1 = true) {w : List Int} {ts : List Tok} (h : Lx w ts) {ps : List By} (hp : partsM cs.length ps = true) : Lx (bytesOf (partTx cs ps) ++ w) (partsToks cs ps ++ ts) := by
 have pin := partsM_in hp
 have ll := partsM_len hp
 have e1 : bytesOf (⟨#[32, 100, 101, 115, 99]⟩ : ByteArray) = 32 :: bytesOf wDesc := by decide +kernel
 have e2 : bytesOf (⟨#[44, 32]⟩ : ByteArray) = [44, 32] := by decide +kernel
 have e3 : bytesOf (⟨#[59, 32]⟩ : ByteArray) = [59, 32] := by decide +kernel
 have one : ∀ p ∈ ps, ∀ {c : Int} {w : List Int} {ts : List Tok}, endsN (c :: w) → Lx (c :: w) ts → Lx (bytesOf (partOne cs p) ++ c :: w) (partToks cs p ++ ts) := fun p hp c w ts he h => by
  have nm := free_name (hn _ (at_mem (z := (ByteArray.empty, (0 : Int), false)) (pin p hp).1 (pin p hp).2))
  unfold partOne partToks
  cases p.2 with
  | true =>
   simp only [cond_true, bytes_app, e1, List.append_assoc, List.cons_append, List.nil_append]
   exact Lx.name' nm (ends_sp _) (Lx.blank blank_sp (Lx.name' null_name.2.1 he h))
  | false =>
   simp only [cond_false, List.cons_append, List.nil_append]
   exact Lx.name' nm he h
 match ps, one, ll with
 | [p], one, _ =>
  unfold partTx
  rw [bytes_app, e3, partsToks, List.append_assoc, List.append_assoc]
  exact one p List.mem_cons_self (ends_semi _) h.semi
 | [p, q], one, _ =>
  unfold partTx
  rw [bytes_app, bytes_app, bytes_app, e2, e3, partsToks, partsToks]
  simp only [List.append_assoc, List.cons_append, List.nil_append]
  exact one p List.mem_cons_self (ends_comma _) (Lx.mark (c := 44) (by decide) (by decide) (by decide) (Lx.blank blank_sp (one q (List.mem_cons_of_mem _ List.mem_cons_self) (ends_semi _) h.semi)))
 | [], _, l => exact absurd l.1 (by simp)
 | _ :: _ :: _ :: _, _, l => exact absurd l.2 (by simp only [List.length_cons]; omega)
def idxBy (cs : List Col) (x : Ix) : List Int := bytesOf (bif x.2.1 then wUnique else wIndex) ++ 32 :: (bytesOf x.1 ++ 32 :: bytesOf (partTx cs x.2.2))
theorem idxS_bytes (cs : List Col) (s : ByteArray) (x : Ix) : bytesOf (idxS cs s x) = bytesOf s ++ idxBy cs x := by
 have e1 : bytesOf (⟨#[32]⟩ : ByteArray) = [32] := by decide +kernel
 have e2 : bytesOf (⟨#[117, 110, 105, 113, 117, 101, 32]⟩ : ByteArray) = bytesOf wUnique ++ [32] := by decide +kernel
 have e3 : bytesOf (⟨#[105, 110, 100, 101, 120, 32]⟩ : ByteArray) = bytesOf wIndex ++ [32] := by decide +kernel
 unfold idxS idxBy
 cases x.2.1 <;> simp only [cond_true, cond_false, bytes_app, e1, e2, e3] <;> simp
theorem Lx.idxs {cs : List Col} (hn : ∀ c ∈ cs, freeM c.1 = true) {w : List Int} {ts : List Tok} (h : Lx w ts) : ∀ (xs : List Ix), (∀ x ∈ xs, freeM x.1 = true ∧ partsM cs.length x.2.2 = true) → Lx (xs.flatMap (idxBy cs) ++ w) (xs.flatMap (idxToks cs) ++ ts)
 | [], _ => h
 | x :: xs, hx => by
  rw [List.flatMap_cons, List.flatMap_cons, List.append_assoc, List.append_assoc]
  have ih := Lx.idxs hn h xs fun y hy => hx y (List.mem_cons_of_mem _ hy)
  have q := hx x List.mem_cons_self
  unfold idxBy idxToks
  simp only [List.append_assoc, List.cons_append]
  have un : nameM (bif x.2.1 then wUnique else wIndex).size 0 (bytesOf (bif x.2.1 then wUnique else wIndex)) = true := by
   cases x.2.1
   ·exact null_name.2.2.2.2.2
   ·exact null_name.2.2.2.2.1
  exact Lx.name' un (ends_sp _) (Lx.blank blank_sp (Lx.name' (free_name q.1) (ends_sp _) (Lx.blank blank_sp (Lx.parts hn ih q.2))))
theorem Lx.table {x : Df} (g : goodM x) {w : List Int} {ts : List Tok} (h : Lx w ts) : Lx (bytesOf (defTx x) ++ w) (defToks x ++ ts) := by
 have n := g.names
 have t := g.types
 obtain ⟨p1, p2⟩ := g.parts
 have e1 : bytesOf (⟨#[116, 97, 98, 108, 101, 32]⟩ : ByteArray) = bytesOf wTable ++ [32] := by decide +kernel
 have e2 : bytesOf (⟨#[32, 123, 32]⟩ : ByteArray) = [32, 123, 32] := by decide +kernel
 have e3 : bytesOf (⟨#[112, 114, 105, 109, 97, 114, 121, 32]⟩ : ByteArray) = bytesOf wPrimary ++ [32] := by decide +kernel
 have e4 : bytesOf (⟨#[125]⟩ : ByteArray) = [125] := by decide +kernel
 have e : defTx x = restTx x (x.2.1.foldl colS (headTx x)) := by unfold defTx; rw [decide_eq_true (checkM_iff.2 g)]; rfl
 rw [e]
 unfold restTx headTx defToks
 rw [bytes_app, foldl_bytes _ _ (idxS_bytes x.2.1), bytes_app, bytes_app, foldl_bytes _ _ colS_bytes, bytes_app, bytes_app, e1, e2, e3, e4]
 simp only [List.append_assoc, List.cons_append, List.nil_append]
 refine Lx.name' null_name.2.2.1 (ends_sp _) (Lx.blank blank_sp (Lx.name' (free_name n.1) (ends_sp _) (Lx.blank blank_sp (Lx.mark (c := 123) (by decide) (by decide) (by decide) (Lx.blank blank_sp ?_)))))
 refine Lx.cols (Lx.name' null_name.2.2.2.1 (ends_sp _) (Lx.blank blank_sp (Lx.parts n.2.1 (Lx.idxs n.2.1 (Lx.mark (c := 125) (by decide) (by decide) (by decide) h) _ fun y hy => ⟨n.2.2 y hy, p2 y hy⟩) p1))) _ fun c hc => ⟨n.2.1 c hc, t.1 c hc⟩
theorem Lx.all : ∀ (l : List Df), (∀ x ∈ l, goodM x) → Lx (bytesOf (defsTx l)) (allToks l) := by
 intro l h
 have e : bytesOf (defsTx l) = l.flatMap fun x => bytesOf (defTx x) ++ [10] := by
  unfold defsTx
  rw [foldl_bytes defsS (fun x => bytesOf (defTx x) ++ [10])]
  ·have : bytesOf (⟨#[]⟩ : ByteArray) = [] := by decide +kernel
   rw [this, List.nil_append]
  ·intro s x
   have e10 : bytesOf (⟨#[10]⟩ : ByteArray) = [10] := by decide +kernel
   unfold defsS
   rw [bytes_app, bytes_app, e10]
 rw [e]
 clear e
 induction l with
 | nil => exact Lx.nil
 | cons x l ih =>
  rw [List.flatMap_cons, List.append_assoc]
  have ihl := ih fun y hy => h y (List.mem_cons_of_mem _ hy)
  have := Lx.table (h x List.mem_cons_self) (Lx.blank (c := 10) (by decide) ihl)
  simpa [allToks] using this
theorem isT_bytes (s t : ByteArray) : isT s t = decide (bytesOf s = bytesOf t) := by
 rw [Bool.eq_iff_iff, isT_iff, decide_eq_true_iff]
 exact ⟨fun h => by rw [h], fun h => toList_inj (bytesOf_inj.1 h)⟩
theorem extract_nums (s : ByteArray) (i e : Nat) : ByteArray.extract s i e = numsStr (((bytesOf s).drop i).take (e - i)) := by
 have h : bytesOf (s.extract i e) = ((bytesOf s).drop i).take (e - i) := by
  show strNums _ = _
  unfold strNums
  rw [ByteArray.data_extract]
  simp [List.map_drop, List.map_take, List.drop_take]
  rfl
 rw [← h]
 exact (strOf_bytesOf _).symm
theorem impl_isMark.sp {d : Nat} (hd : 1 ≤ d) (c : Int) : impl_isMark.f d c = some (markM [c]) := by
 obtain ⟨d, rfl, _⟩ := dep hd
 rw [impl_isMark.t_eq]
 dsimp only [impl_isMark.m]
 unfold markM
 refine Tells.eq (teq (fun e => tl (by simp [e])) fun n1 => teq (fun e => tl (by simp [e])) fun n2 => teq (fun e => tl (by simp [e])) fun n3 => tl (by simp [n1, n2, n3]; rw [Bool.eq_iff_iff]; simp))
theorem impl_TokenOk.sp {d : Nat} (hd : 3 ≤ d) {s : ByteArray} (hs : s.size ≤ 140737488351232) (k : Int) : impl_TokenOk.f d (k, s) = some (tokM k (bytesOf s)) := by
 obtain ⟨d, rfl, _⟩ := dep hd
 rw [impl_TokenOk.t_eq]
 dsimp only [impl_TokenOk.m]
 have hl := bytesOf_length s
 unfold tokM
 refine Tells.eq (teq (fun e => ?_) fun n1 => teq (fun e => ?_) fun n2 => ?_)
 ·rw [if_pos e, hl]; exact tc (impl_nameOk.sp (by omega) hs) (tl rfl)
 ·rw [if_neg n1, if_pos e]
  refine teq (fun e1 => tt (by simp; omega) ?_) fun n => tl (by rw [markM_len _ (by omega)])
  have h0 : 0 < (bytesOf s).length := by omega
  have := get_byte (s := s) (i := 0) h0
  have g : ((ByteArray.get! s (Int.toNat (0 : Int))).toNat : Int) = (bytesOf s)[0] := this
  obtain ⟨x, hx⟩ := List.length_eq_one_iff.1 (show (bytesOf s).length = 1 by omega)
  have gx : (bytesOf s)[0] = x := by simp [hx]
  rw [g, gx, hx]
  exact tc (impl_isMark.sp (by omega) _) (tl rfl)
 ·rw [if_neg n1, if_neg n2]; exact tl rfl
theorem spec_l8Mark.sp {d : Nat} (hd : 1 ≤ d) (s : ByteArray) : spec_l8Mark.f d s = some (markM (bytesOf s)) := by
 obtain ⟨d, rfl, _⟩ := dep hd
 rw [spec_l8Mark.t_eq]
 dsimp only [spec_l8Mark.m]
 have e1 : bytesOf (⟨#[123]⟩ : ByteArray) = [123] := by decide +kernel
 have e2 : bytesOf (⟨#[125]⟩ : ByteArray) = [125] := by decide +kernel
 have e3 : bytesOf (⟨#[44]⟩ : ByteArray) = [44] := by decide +kernel
 have e4 : bytesOf (⟨#[59]⟩ : ByteArray) = [59] := by decide +kernel
 have i1 := isT_bytes s (⟨#[123]⟩ : ByteArray)
 have i2 := isT_bytes s (⟨#[125]⟩ : ByteArray)
 have i3 := isT_bytes s (⟨#[44]⟩ : ByteArray)
 have i4 := isT_bytes s (⟨#[59]⟩ : ByteArray)
 unfold isT at i1 i2 i3 i4
 rw [i1, i2, i3, i4, e1, e2, e3, e4]
 unfold markM
 refine Tells.eq (tif (fun c => tl (by rw [if_pos c])) fun n1 => tif (fun c => tl (by rw [if_neg n1, if_pos c])) fun n2 => tif (fun c => tl (by rw [if_neg n1, if_neg n2, if_pos c])) fun n3 => tl (by rw [if_neg n1, if_neg n2, if_neg n3]))
theorem spec_TokenOk.sp {d : Nat} (hd : 4 ≤ d) {s : ByteArray} (hs : s.size ≤ 140737488351232) (k : Int) : spec_TokenOk.f d (k, s) = some (tokM k (bytesOf s)) := by
 obtain ⟨d, rfl, _⟩ := dep hd
 rw [spec_TokenOk.t_eq]
 dsimp only [spec_TokenOk.m]
 have hl := bytesOf_length s
 unfold tokM
 refine Tells.eq (teq (fun e => ?_) fun n1 => teq (fun e => ?_) fun n2 => ?_)
 ·rw [if_pos e, hl]; exact tc (spec_l8Name.sp (by omega) hs) (tl rfl)
 ·rw [if_neg n1, if_pos e]; exact tc (spec_l8Mark.sp (by omega) s) (tl rfl)
 ·rw [if_neg n1, if_neg n2]; exact tl rfl
theorem impl_Lex.from {d : Nat} (hd : 3 ≤ d) {s : ByteArray} (hs : s.size ≤ 140737488351232) : ∀ (n i R : Nat) (t : List Tok), s.size - i ≤ n → i ≤ s.size → n < R → t.length ≤ 500 → Tells (iter (impl_Lex.S0 d) R (s, (i : Int), t)) (· = lexB n ((bytesOf s).drop i) i t) := by
 have hlen := bytesOf_length s
 have stop : ∀ (n i R : Nat) (t : List Tok), i = s.size → 0 < R → Tells (iter (impl_Lex.S0 d) R (s, (i : Int), t)) (· = lexB n ((bytesOf s).drop i) i t) := fun n i R t hi hR => by
  obtain ⟨R, rfl⟩ : ∃ R', R = R' + 1 := ⟨R - 1, by omega⟩
  rw [List.drop_eq_nil_of_le (by omega), lexB_nil]
  simp only [iter]
  dsimp only [impl_Lex.S0, impl_Lex.s0]
  exact tn (by omega) (tl rfl)
 intro n
 induction n with
 | zero => intro i R t h1 h2 h3 h4; exact stop 0 i R t (by omega) h3
 | succ n ih =>
  intro i R t h1 h2 h3 h4
  by_cases hend : i = s.size
  ·exact stop _ i R t hend (by omega)
  have hlt : i < (bytesOf s).length := by omega
  obtain ⟨R, rfl⟩ : ∃ R', R = R' + 1 := ⟨R - 1, by omega⟩
  have ih1 := ih (i + 1) R t (by omega) (by omega) (by omega) h4
  have hL : ∀ (e : Nat) (t' : List Tok), i < e → e ≤ s.size → t'.length ≤ 500 → Tells (iter (impl_Lex.S0 d) R (s, (e : Int), t')) (· = lexB n ((bytesOf s).drop e) e t') := fun e t' a b c => ih e R t' (by omega) b (by omega) c
  simp only [iter]
  generalize iter (impl_Lex.S0 d) R = L at ih1 hL
  dsimp only [impl_Lex.S0, impl_Lex.s0]
  refine tp (by omega) (ti (by omega) ?_)
  rw [get_byte hlt, wrap_succ (by omega), drop_at hlt]
  have bl : ∀ c : Int, (c = 32 ∨ c = 9 ∨ c = 10 ∨ c = 13) → blankM c = true := fun c h => by
   unfold blankM
   rcases h with e | e | e | e <;> subst e <;> rfl
  refine teq (fun e => ?_) fun n1 => teq (fun e => ?_) fun n2 => teq (fun e => ?_) fun n3 => teq (fun e => ?_) fun n4 => ?_
  ·rw [lexB, if_pos (bl _ (.inl e))]; exact ih1
  ·rw [lexB, if_pos (bl _ (.inr (.inl e)))]; exact ih1
  ·rw [lexB, if_pos (bl _ (.inr (.inr (.inl e))))]; exact ih1
  ·rw [lexB, if_pos (bl _ (.inr (.inr (.inr e))))]; exact ih1
  have nb : ¬ blankM (bytesOf s)[i] = true := by
   unfold blankM
   simp [n1, n2, n3, n4]
  rw [lexB, if_neg nb]
  have fin : ∀ (j : Nat) (g9 : Int), g9 = 1 → i < j → j ≤ s.size → Tells (bif decide (0 ≤ (i : Int)) && decide ((i : Int) ≤ (j : Int)) && decide ((j : Int) ≤ (ByteArray.size s : Int)) then
    Option.bind (impl_TokenOk.f d ((1 : Int), ByteArray.extract s (Int.toNat (i : Int)) (Int.toNat (j : Int)))) fun r4 =>
     bif !(r4) then some (([] : List (Int × ByteArray)), (i : Int)) else
      bif decide ((t.length : Int) ≥ 500) then some (([] : List (Int × ByteArray)), (i : Int)) else
       bif decide ((List.length t + List.length ([((1 : Int), ByteArray.extract s (Int.toNat (i : Int)) (Int.toNat (j : Int)))] : List (Int × ByteArray))) * 24 ≤ 140737488355328) then
        L (s, (j : Int), t ++ ([((1 : Int), ByteArray.extract s (Int.toNat (i : Int)) (Int.toNat (j : Int)))] : List (Int × ByteArray))) else none else none)
    (· = if tokM 1 (((bytesOf s).drop i).take (j - i)) = true then (if t.length = 500 then ([], (i : Int)) else lexB n ((bytesOf s).drop j) j (t ++ [(1, numsStr (((bytesOf s).drop i).take (j - i)))])) else ([], (i : Int))) := fun j g9 hg h5 h6 => by
   subst hg
   rw [Int.toNat_natCast, Int.toNat_natCast, extract_nums]
   refine tt (by simp; omega) (tc (impl_TokenOk.sp (by omega) (by rw [strOfNums_size, List.length_take, List.length_drop]; omega) _) ?_)
   rw [show bytesOf (numsStr (((bytesOf s).drop i).take (j - i))) = ((bytesOf s).drop i).take (j - i) from bytesOf_strOf _ fun b hb => bytesOf_bytes s b (List.mem_of_mem_drop (List.mem_of_mem_take hb))]
   cases c : tokM 1 (((bytesOf s).drop i).take (j - i)) with
   | false => exact tt rfl (tl rfl)
   | true =>
    rw [if_pos rfl]
    refine tf rfl (tif (fun f5 => tl (by rw [if_pos (show t.length = 500 by omega)])) fun f5 => ?_)
    rw [if_neg (show ¬ t.length = 500 by omega)]
    exact tp (by simp only [List.length_cons, List.length_nil]; omega) (hL j _ h5 h6 (by simp only [List.length_append, List.length_cons, List.length_nil]; omega))
  have loop : ∀ (m j R : Nat) (g3 : Int) (g4 : Bool) (g5 : Int) (g6 : Bool) (g7 : Int) (g8 : Bool) (g9 : Int) (g10 : ByteArray), j + m = s.size → m < R → i < j → Tells (iter (impl_Lex.S2 d L) R (s, (i : Int), (j : Int), g3, g4, g5, g6, g7, g8, g9, g10, t))
    (· = if tokM 1 (((bytesOf s).drop i).take (j + runM ((bytesOf s).drop j) - i)) = true then (if t.length = 500 then ([], (i : Int)) else lexB n ((bytesOf s).drop (j + runM ((bytesOf s).drop j))) (j + runM ((bytesOf s).drop j)) (t ++ [(1, numsStr (((bytesOf s).drop i).take (j + runM ((bytesOf s).drop j) - i)))])) else ([], (i : Int))) := by
   intro m
   induction m with
   | zero =>
    intro j R g3 g4 g5 g6 g7 g8 g9 g10 hj hR hij
    obtain ⟨R, rfl⟩ : ∃ R', R = R' + 1 := ⟨R - 1, by omega⟩
    have e0 : (bytesOf s).drop j = [] := List.drop_eq_nil_of_le (by omega)
    have f := fin j 1 rfl hij (by omega)
    have er : j + runM ((bytesOf s).drop j) = j := by rw [e0]; rfl
    rw [er]
    simp only [iter]
    dsimp only [impl_Lex.S2, impl_Lex.s2]
    exact tn (by omega) f
   | succ m ihm =>
    intro j R g3 g4 g5 g6 g7 g8 g9 g10 hjm hR hij
    obtain ⟨R, rfl⟩ : ∃ R', R = R' + 1 := ⟨R - 1, by omega⟩
    have hj : j < (bytesOf s).length := by omega
    have next := ihm (j + 1) R g3 g4 g5 g6 g7 g8 g9 g10 (by omega) (by omega) (by omega)
    have f := fin j 1 rfl hij (by omega)
    simp only [iter]
    generalize iter (impl_Lex.S2 d L) R = L2 at next
    dsimp only [impl_Lex.S2, impl_Lex.s2]
    refine tp (by omega) (ti (by omega) ?_)
    rw [get_byte hj, wrap_succ (by omega)]
    have yes : (inB (bytesOf s)[j] 97 122 = true ∨ inB (bytesOf s)[j] 48 57 = true) → j + runM ((bytesOf s).drop j) = j + 1 + runM ((bytesOf s).drop (j + 1)) := fun h => by rw [drop_at hj, runM, if_pos h]; omega
    refine tc (impl_isLetter.sp (by omega) _) (tbif (fun c1 => ?_) fun c1 => ti (by omega) (tc (impl_isDigit.sp (by omega) _) (tbif (fun c2 => ?_) fun c2 => ?_)))
    ·rw [yes (.inl c1)]; exact next
    ·rw [yes (.inr c2)]; exact next
    ·have er : j + runM ((bytesOf s).drop j) = j := by rw [drop_at hj, runM, if_neg (by rw [c1, c2]; simp)]; omega
     rw [er]
     exact f
  refine tt (by simp; omega) (tc (impl_isLetter.sp (by omega) _) (tbif (fun c1 => ?_) fun c1 => ?_))
  ·rw [if_pos c1]
   have q := loop (s.size - (i + 1)) (i + 1) rnds (bytesOf s)[i] ((bytesOf s)[i] == 9) (bytesOf s)[i] ((bytesOf s)[i] == 10) (bytesOf s)[i] ((bytesOf s)[i] == 13) 2 (ByteArray.extract s (Int.toNat (i : Int)) (Int.toNat ((i + 1 : Nat) : Int))) (by omega) (rnds_gt (by omega)) (by omega)
   have rl := runM_le ((bytesOf s).drop (i + 1))
   have e1 : ((bytesOf s).drop i).take (i + 1 + runM ((bytesOf s).drop (i + 1)) - i) = (bytesOf s)[i] :: ((bytesOf s).drop (i + 1)).take (runM ((bytesOf s).drop (i + 1))) := by
    rw [drop_at hlt, show i + 1 + runM ((bytesOf s).drop (i + 1)) - i = runM ((bytesOf s).drop (i + 1)) + 1 by omega, List.take_succ_cons]
   rw [e1, ← List.drop_drop (i := runM ((bytesOf s).drop (i + 1))) (j := i + 1)] at q
   exact q
  ·rw [if_neg (by rw [c1]; simp), Int.toNat_natCast, Int.toNat_natCast, extract_nums, drop_at hlt, show i + 1 - i = 0 + 1 by omega, List.take_succ_cons, List.take_zero]
   refine tc (impl_TokenOk.sp (by omega) (by rw [strOfNums_size]; simp) _) ?_
   rw [show bytesOf (numsStr [(bytesOf s)[i]]) = [(bytesOf s)[i]] from bytesOf_strOf _ fun b hb => by rw [List.mem_singleton.1 hb]; exact byte_in hlt]
   cases c : tokM 2 [(bytesOf s)[i]] with
   | false => exact tt rfl (tl rfl)
   | true =>
    rw [if_pos rfl]
    refine tf rfl (tif (fun f5 => tl (by rw [if_pos (show t.length = 500 by omega)])) fun f5 => ?_)
    rw [if_neg (show ¬ t.length = 500 by omega)]
    exact tp (by simp only [List.length_cons, List.length_nil]; omega) (hL (i + 1) _ (by omega) (by omega) (by simp only [List.length_append, List.length_cons, List.length_nil]; omega))
theorem impl_Lex.sp {d : Nat} (hd : 4 ≤ d) {s : ByteArray} (hs : s.size ≤ 140737488351232) : impl_Lex.f d s = some (lexT s) := by
 obtain ⟨d, rfl, _⟩ := dep hd
 rw [impl_Lex.t_eq]
 dsimp only [impl_Lex.m]
 have := impl_Lex.from (d := d) (by omega) hs s.size 0 rnds [] (by omega) (by omega) (rnds_gt (by omega)) (by simp)
 rw [List.drop_zero] at this
 exact Tells.eq this
theorem spec_Lex.from {d : Nat} (hd : 4 ≤ d) {s : ByteArray} (hs : s.size ≤ 140737488351232) : ∀ (n i R : Nat) (t : List Tok), s.size - i ≤ n → i ≤ s.size → n < R → t.length ≤ 500 → Tells (iter (spec_Lex.S0 d) R (s, (i : Int), t)) (· = lexB n ((bytesOf s).drop i) i t) := by
 have hlen := bytesOf_length s
 have stop : ∀ (n i R : Nat) (t : List Tok), i = s.size → 0 < R → Tells (iter (spec_Lex.S0 d) R (s, (i : Int), t)) (· = lexB n ((bytesOf s).drop i) i t) := fun n i R t hi hR => by
  obtain ⟨R, rfl⟩ : ∃ R', R = R' + 1 := ⟨R - 1, by omega⟩
  rw [List.drop_eq_nil_of_le (by omega), lexB_nil]
  simp only [iter]
  dsimp only [spec_Lex.S0, spec_Lex.s0]
  exact tn (by omega) (tl rfl)
 intro n
 induction n with
 | zero => intro i R t h1 h2 h3 h4; exact stop 0 i R t (by omega) h3
 | succ n ih =>
  intro i R t h1 h2 h3 h4
  by_cases hend : i = s.size
  ·exact stop _ i R t hend (by omega)
  have hlt : i < (bytesOf s).length := by omega
  obtain ⟨R, rfl⟩ : ∃ R', R = R' + 1 := ⟨R - 1, by omega⟩
  have ih1 := ih (i + 1) R t (by omega) (by omega) (by omega) h4
  have hL : ∀ (e : Nat) (t' : List Tok), i < e → e ≤ s.size → t'.length ≤ 500 → Tells (iter (spec_Lex.S0 d) R (s, (e : Int), t')) (· = lexB n ((bytesOf s).drop e) e t') := fun e t' a b c => ih e R t' (by omega) b (by omega) c
  simp only [iter]
  generalize iter (spec_Lex.S0 d) R = L at ih1 hL
  dsimp only [spec_Lex.S0, spec_Lex.s0]
  refine tp (by omega) (ti (by omega) ?_)
  rw [get_byte hlt, wrap_succ (by omega), drop_at hlt]
  have bl : ∀ c : Int, (c = 32 ∨ c = 9 ∨ c = 10 ∨ c = 13) → blankM c = true := fun c h => by
   unfold blankM
   rcases h with e | e | e | e <;> subst e <;> rfl
  refine teq (fun e => ?_) fun n1 => teq (fun e => ?_) fun n2 => teq (fun e => ?_) fun n3 => teq (fun e => ?_) fun n4 => ?_
  ·rw [lexB, if_pos (bl _ (.inl e))]; exact ih1
  ·rw [lexB, if_pos (bl _ (.inr (.inl e)))]; exact ih1
  ·rw [lexB, if_pos (bl _ (.inr (.inr (.inl e))))]; exact ih1
  ·rw [lexB, if_pos (bl _ (.inr (.inr (.inr e))))]; exact ih1
  have nb : ¬ blankM (bytesOf s)[i] = true := by
   unfold blankM
   simp [n1, n2, n3, n4]
  rw [lexB, if_neg nb]
  have fin : ∀ (j : Nat) (g9 : Int), g9 = 1 → i < j → j ≤ s.size → Tells (bif decide (0 ≤ (i : Int)) && decide ((i : Int) ≤ (j : Int)) && decide ((j : Int) ≤ (ByteArray.size s : Int)) then
    Option.bind (spec_TokenOk.f d (g9, ByteArray.extract s (Int.toNat (i : Int)) (Int.toNat (j : Int)))) fun r4 =>
     bif !(r4) then some (([] : List (Int × ByteArray)), (i : Int)) else
      bif ((t.length : Int) == 500) then some (([] : List (Int × ByteArray)), (i : Int)) else
       bif decide ((List.length t + List.length ([(g9, ByteArray.extract s (Int.toNat (i : Int)) (Int.toNat (j : Int)))] : List (Int × ByteArray))) * 24 ≤ 140737488355328) then
        L (s, (j : Int), t ++ ([(g9, ByteArray.extract s (Int.toNat (i : Int)) (Int.toNat (j : Int)))] : List (Int × ByteArray))) else none else none)
    (· = if tokM 1 (((bytesOf s).drop i).take (j - i)) = true then (if t.length = 500 then ([], (i : Int)) else lexB n ((bytesOf s).drop j) j (t ++ [(1, numsStr (((bytesOf s).drop i).take (j - i)))])) else ([], (i : Int))) := fun j g9 hg h5 h6 => by
   subst hg
   rw [Int.toNat_natCast, Int.toNat_natCast, extract_nums]
   refine tt (by simp; omega) (tc (spec_TokenOk.sp (by omega) (by rw [strOfNums_size, List.length_take, List.length_drop]; omega) _) ?_)
   rw [show bytesOf (numsStr (((bytesOf s).drop i).take (j - i))) = ((bytesOf s).drop i).take (j - i) from bytesOf_strOf _ fun b hb => bytesOf_bytes s b (List.mem_of_mem_drop (List.mem_of_mem_take hb))]
   cases c : tokM 1 (((bytesOf s).drop i).take (j - i)) with
   | false => exact tt rfl (tl rfl)
   | true =>
    rw [if_pos rfl]
    refine tf rfl (teq (fun f5 => tl (by rw [if_pos (show t.length = 500 by omega)])) fun f5 => ?_)
    rw [if_neg (show ¬ t.length = 500 by omega)]
    exact tp (by simp only [List.length_cons, List.length_nil]; omega) (hL j _ h5 h6 (by simp only [List.length_append, List.length_cons, List.length_nil]; omega))
  have loop : ∀ (m j R : Nat) (g3 : Int) (g4 : Bool) (g5 : Int) (g6 : Bool) (g7 : Int) (g8 : Bool) (g9 : Int) (g10 : ByteArray), g9 = 1 → j + m = s.size → m < R → i < j → Tells (iter (spec_Lex.S2 d L) R (s, (i : Int), (j : Int), g3, g4, g5, g6, g7, g8, g9, g10, t))
    (· = if tokM 1 (((bytesOf s).drop i).take (j + runM ((bytesOf s).drop j) - i)) = true then (if t.length = 500 then ([], (i : Int)) else lexB n ((bytesOf s).drop (j + runM ((bytesOf s).drop j))) (j + runM ((bytesOf s).drop j)) (t ++ [(1, numsStr (((bytesOf s).drop i).take (j + runM ((bytesOf s).drop j) - i)))])) else ([], (i : Int))) := by
   intro m
   induction m with
   | zero =>
    intro j R g3 g4 g5 g6 g7 g8 g9 g10 hg hj hR hij
    obtain ⟨R, rfl⟩ : ∃ R', R = R' + 1 := ⟨R - 1, by omega⟩
    have e0 : (bytesOf s).drop j = [] := List.drop_eq_nil_of_le (by omega)
    have f := fin j g9 hg hij (by omega)
    have er : j + runM ((bytesOf s).drop j) = j := by rw [e0]; rfl
    rw [er]
    simp only [iter]
    dsimp only [spec_Lex.S2, spec_Lex.s2]
    exact tn (by omega) f
   | succ m ihm =>
    intro j R g3 g4 g5 g6 g7 g8 g9 g10 hg hjm hR hij
    obtain ⟨R, rfl⟩ : ∃ R', R = R' + 1 := ⟨R - 1, by omega⟩
    have hj : j < (bytesOf s).length := by omega
    have next := ihm (j + 1) R g3 g4 g5 g6 g7 g8 g9 g10 hg (by omega) (by omega) (by omega)
    have f := fin j g9 hg hij (by omega)
    simp only [iter]
    generalize iter (spec_Lex.S2 d L) R = L2 at next
    dsimp only [spec_Lex.S2, spec_Lex.s2]
    refine tp (by omega) (ti (by omega) ?_)
    rw [get_byte hj, wrap_succ (by omega)]
    have yes : (inB (bytesOf s)[j] 97 122 = true ∨ inB (bytesOf s)[j] 48 57 = true) → j + runM ((bytesOf s).drop j) = j + 1 + runM ((bytesOf s).drop (j + 1)) := fun h => by rw [drop_at hj, runM, if_pos h]; omega
    refine tc (spec_l8Small.sp (by omega) (byte_in hj)) (tbif (fun c1 => ?_) fun c1 => ti (by omega) (tc (spec_l2Digit.sp (by omega) (byte_in hj)) (tbif (fun c2 => ?_) fun c2 => ?_)))
    ·rw [yes (.inl c1)]; exact next
    ·rw [yes (.inr c2)]; exact next
    ·have er : j + runM ((bytesOf s).drop j) = j := by rw [drop_at hj, runM, if_neg (by rw [c1, c2]; simp)]; omega
     rw [er]
     exact f
  refine tc (spec_l8Small.sp (by omega) (byte_in hlt)) (tbif (fun c1 => ?_) fun c1 => tt (by simp; omega) ?_)
  ·rw [if_pos c1]
   have q := loop (s.size - (i + 1)) (i + 1) rnds (bytesOf s)[i] ((bytesOf s)[i] == 9) (bytesOf s)[i] ((bytesOf s)[i] == 10) (bytesOf s)[i] ((bytesOf s)[i] == 13) 1 ByteArray.empty rfl (by omega) (rnds_gt (by omega)) (by omega)
   have rl := runM_le ((bytesOf s).drop (i + 1))
   have e1 : ((bytesOf s).drop i).take (i + 1 + runM ((bytesOf s).drop (i + 1)) - i) = (bytesOf s)[i] :: ((bytesOf s).drop (i + 1)).take (runM ((bytesOf s).drop (i + 1))) := by
    rw [drop_at hlt, show i + 1 + runM ((bytesOf s).drop (i + 1)) - i = runM ((bytesOf s).drop (i + 1)) + 1 by omega, List.take_succ_cons]
   rw [e1, ← List.drop_drop (i := runM ((bytesOf s).drop (i + 1))) (j := i + 1)] at q
   exact q
  ·rw [if_neg (by rw [c1]; simp), Int.toNat_natCast, Int.toNat_natCast, extract_nums, drop_at hlt, show i + 1 - i = 0 + 1 by omega, List.take_succ_cons, List.take_zero]
   refine tc (spec_TokenOk.sp (by omega) (by rw [strOfNums_size]; simp) _) ?_
   rw [show bytesOf (numsStr [(bytesOf s)[i]]) = [(bytesOf s)[i]] from bytesOf_strOf _ fun b hb => by rw [List.mem_singleton.1 hb]; exact byte_in hlt]
   cases c : tokM 2 [(bytesOf s)[i]] with
   | false => exact tt rfl (tl rfl)
   | true =>
    rw [if_pos rfl]
    refine tf rfl (teq (fun f5 => tl (by rw [if_pos (show t.length = 500 by omega)])) fun f5 => ?_)
    rw [if_neg (show ¬ t.length = 500 by omega)]
    exact tp (by simp only [List.length_cons, List.length_nil]; omega) (hL (i + 1) _ (by omega) (by omega) (by simp only [List.length_append, List.length_cons, List.length_nil]; omega))
theorem spec_Lex.sp {d : Nat} (hd : 5 ≤ d) {s : ByteArray} (hs : s.size ≤ 140737488351232) : spec_Lex.f d s = some (lexT s) := by
 obtain ⟨d, rfl, _⟩ := dep hd
 rw [spec_Lex.t_eq]
 dsimp only [spec_Lex.m]
 have := spec_Lex.from (d := d) (by omega) hs s.size 0 rnds [] (by omega) (by omega) (rnds_gt (by omega)) (by simp)
 rw [List.drop_zero] at this
 exact Tells.eq this
def St (l : List Tok) (o : Rest) (n : Int) (bad : Bool) : Prop := ∃ m : Nat, n = (m : Int) ∧ m ≤ l.length ∧ (match o with | some r => bad = false ∧ l.drop m = r | none => bad = true)
def muO (o : Rest) : Nat := match o with | some r => r.length + 1 | none => 0
theorem St.mu {l : List Tok} {o : Rest} {n : Int} {bad : Bool} (h : St l o n bad) : muO o ≤ l.length + 1 := by
 obtain ⟨m, rfl, hm, h⟩ := h
 match o, h with
 | none, _ => exact Nat.zero_le _
 | some r, ⟨_, e⟩ => subst e; show (l.drop m).length + 1 ≤ _; rw [List.length_drop]; omega
theorem St.off {l : List Tok} {o : Rest} {n : Int} {bad : Bool} (h : St l o n bad) : St l none n true := by
 obtain ⟨m, e, hm, _⟩ := h
 exact ⟨m, e, hm, rfl⟩
theorem St.bad {l : List Tok} {n : Int} {bad : Bool} (h : St l none n bad) : bad = true := by obtain ⟨m, _, _, h⟩ := h; exact h
theorem St.fine {l r : List Tok} {n : Int} {bad : Bool} (h : St l (some r) n bad) : bad = false := by obtain ⟨m, _, _, h, _⟩ := h; exact h
theorem isS_must_no {s : ByteArray} {o : Rest} (h : (isS s o).1 = false) : mustS s o = none := by
 match o, h with
 | none, _ => rfl
 | some [], _ => rfl
 | some (t :: r), h =>
  simp only [isS, mustS] at h ⊢
  cases c : isT t.2 s with
  | false => rfl
  | true => rw [c] at h; simp at h
theorem isS_must_yes {s : ByteArray} {o : Rest} (h : (isS s o).1 = true) : mustS s o = (isS s o).2 := by
 match o, h with
 | some (t :: r), h =>
  simp only [isS, mustS] at h ⊢
  cases c : isT t.2 s with
  | false => rw [c] at h; simp at h
  | true => rfl
theorem isS_mu (s : ByteArray) (o : Rest) : muO (isS s o).2 ≤ muO o := by
 match o with
 | none => exact Nat.le_refl _
 | some [] => exact Nat.le_refl _
 | some (t :: r) =>
  simp only [isS]
  cases isT t.2 s <;> simp [muO]
theorem mustS_mu (s : ByteArray) (o : Rest) : muO (mustS s o) ≤ muO o := by
 match o with
 | none => exact Nat.le_refl _
 | some [] => exact Nat.zero_le _
 | some (t :: r) =>
  simp only [mustS]
  cases isT t.2 s <;> simp [muO]
theorem nameS_mu (o : Rest) : muO ((nameS o).map (·.2)) ≤ muO o ∧ (muO o ≠ 0 → muO ((nameS o).map (·.2)) < muO o) := by
 match o with
 | none => exact ⟨Nat.le_refl _, fun h => absurd rfl h⟩
 | some [] => exact ⟨Nat.zero_le _, fun _ => Nat.one_pos⟩
 | some (t :: r) =>
  simp only [nameS]
  cases (t.1 == 1) <;> simp [muO]
theorem impl_tokens_maybe.sp {d : Nat} (hd : 1 ≤ d) {l : List Tok} (hl : l.length ≤ 500) {o : Rest} {n : Int} {bad : Bool} (h : St l o n bad) (s : ByteArray) : Tells (impl_tokens_maybe.f d (l, n, bad, s)) fun r => r.1 = (isS s o).1 ∧ St l (isS s o).2 r.2.1 r.2.2 := by
 obtain ⟨d, rfl, _⟩ := dep hd
 rw [impl_tokens_maybe.t_eq]
 dsimp only [impl_tokens_maybe.m]
 obtain ⟨m, rfl, hm, h⟩ := h
 match o, h with
 | none, h => exact tt h (tl ⟨rfl, m, rfl, hm, h⟩)
 | some r, ⟨hb, hr⟩ =>
  subst hr
  refine tf hb (tif (fun c => ?_) fun c => ?_)
  ·have e : l.drop m = [] := List.drop_eq_nil_of_le (by omega)
   rw [e]
   exact tl ⟨rfl, m, rfl, hm, hb, e⟩
  ·have hi : m < l.length := by omega
   rw [getD_in hi, drop_at hi]
   refine ti hi ?_
   simp only [isS]
   cases c : isT l[m].2 s with
   | false => exact tt (by rw [show (l[m].2.toList == s.toList) = false from c]; rfl) (tl ⟨rfl, m, rfl, hm, hb, drop_at hi⟩)
   | true => exact tf (by rw [show (l[m].2.toList == s.toList) = true from c]; rfl) (tl ⟨rfl, m + 1, wrap_succ (by omega), hi, hb, rfl⟩)
theorem impl_tokens_want.sp {d : Nat} (hd : 2 ≤ d) {l : List Tok} (hl : l.length ≤ 500) {o : Rest} {n : Int} {bad : Bool} (h : St l o n bad) (s : ByteArray) : Tells (impl_tokens_want.f d (l, n, bad, s)) fun r => St l (mustS s o) r.1 r.2 := by
 obtain ⟨d, rfl, _⟩ := dep hd
 rw [impl_tokens_want.t_eq]
 dsimp only [impl_tokens_want.m]
 refine tb (impl_tokens_maybe.sp (by omega) hl h s) fun r hr => ?_
 cases c : (isS s o).1 with
 | false => exact tt (by rw [hr.1, c]; rfl) (tl (by rw [isS_must_no c]; exact hr.2.off))
 | true => exact tf (by rw [hr.1, c]; rfl) (tl (by rw [isS_must_yes c]; exact hr.2))
theorem impl_tokens_name.sp {d : Nat} (hd : 1 ≤ d) {l : List Tok} (hl : l.length ≤ 500) {o : Rest} {n : Int} {bad : Bool} (h : St l o n bad) : Tells (impl_tokens_name.f d (l, n, bad)) fun r => St l ((nameS o).map (·.2)) r.2.1 r.2.2 ∧ ∀ v, nameS o = some v → r.1 = v.1 := by
 obtain ⟨d, rfl, _⟩ := dep hd
 rw [impl_tokens_name.t_eq]
 dsimp only [impl_tokens_name.m]
 obtain ⟨m, rfl, hm, h⟩ := h
 match o, h with
 | none, h => exact tt h (tl ⟨⟨m, rfl, hm, rfl⟩, fun v hv => by cases hv⟩)
 | some r, ⟨hb, hr⟩ =>
  subst hr
  refine tf hb (tif (fun c => ?_) fun c => ?_)
  ·have e : l.drop m = [] := List.drop_eq_nil_of_le (by omega)
   rw [e]
   exact tl ⟨⟨m, rfl, hm, rfl⟩, fun v hv => by cases hv⟩
  ·have hi : m < l.length := by omega
   have w : IntKind.wrap IntKind.i64 (((m + 1 : Nat) : Int) - 1) = (m : Int) := by rw [wrap_id (by omega) (by omega)]; omega
   rw [getD_in hi, drop_at hi, wrap_succ (by omega), w, getD_in hi]
   refine ti hi ?_
   simp only [nameS]
   refine tneq (fun c => ?_) fun c => ?_
   ·rw [show (l[m].1 == 1) = false by simp [c]]
    exact tl ⟨⟨m, rfl, hm, rfl⟩, fun v hv => by cases hv⟩
   ·rw [show (l[m].1 == 1) = true by simp [c]]
    refine ti hi (tl ⟨⟨m + 1, rfl, hi, hb, rfl⟩, fun v hv => ?_⟩)
    simp only [cond_true, Option.some.injEq] at hv
    rw [← hv]
theorem spec_l10Is.sp {d : Nat} (hd : 1 ≤ d) {l : List Tok} (hl : l.length ≤ 500) {o : Rest} {n : Int} {bad : Bool} (h : St l o n bad) (s : ByteArray) : Tells (spec_l10Is.f d (l, n, bad, s)) fun r => r.1 = (isS s o).1 ∧ St l (isS s o).2 r.2.1 r.2.2 := by
 obtain ⟨d, rfl, _⟩ := dep hd
 rw [spec_l10Is.t_eq]
 dsimp only [spec_l10Is.m]
 obtain ⟨m, rfl, hm, h⟩ := h
 match o, h with
 | none, h => exact tt h (tl ⟨rfl, m, rfl, hm, h⟩)
 | some r, ⟨hb, hr⟩ =>
  subst hr
  refine tf hb (tif (fun c => ?_) fun c => ?_)
  ·have e : l.drop m = [] := List.drop_eq_nil_of_le (by omega)
   rw [e]
   exact tl ⟨rfl, m, rfl, hm, hb, e⟩
  ·have hi : m < l.length := by omega
   rw [getD_in hi, drop_at hi]
   refine ti hi ?_
   simp only [isS]
   cases c : isT l[m].2 s with
   | false => exact tt (by rw [show (l[m].2.toList == s.toList) = false from c]; rfl) (tl ⟨rfl, m, rfl, hm, hb, drop_at hi⟩)
   | true => exact tf (by rw [show (l[m].2.toList == s.toList) = true from c]; rfl) (tl ⟨rfl, m + 1, wrap_succ (by omega), hi, hb, rfl⟩)
theorem spec_l10Must.sp {d : Nat} (hd : 2 ≤ d) {l : List Tok} (hl : l.length ≤ 500) {o : Rest} {n : Int} {bad : Bool} (h : St l o n bad) (s : ByteArray) : Tells (spec_l10Must.f d (l, n, bad, s)) fun r => St l (mustS s o) r.1 r.2 := by
 obtain ⟨d, rfl, _⟩ := dep hd
 rw [spec_l10Must.t_eq]
 dsimp only [spec_l10Must.m]
 refine tb (spec_l10Is.sp (by omega) hl h s) fun r hr => ?_
 cases c : (isS s o).1 with
 | false => exact tt (by rw [hr.1, c]; rfl) (tl (by rw [isS_must_no c]; exact hr.2.off))
 | true => exact tf (by rw [hr.1, c]; rfl) (tl (by rw [isS_must_yes c]; exact hr.2))
theorem spec_l10Name.sp {d : Nat} (hd : 1 ≤ d) {l : List Tok} (hl : l.length ≤ 500) {o : Rest} {n : Int} {bad : Bool} (h : St l o n bad) : Tells (spec_l10Name.f d (l, n, bad)) fun r => St l ((nameS o).map (·.2)) r.2.1 r.2.2 ∧ ∀ v, nameS o = some v → r.1 = v.1 := by
 obtain ⟨d, rfl, _⟩ := dep hd
 rw [spec_l10Name.t_eq]
 dsimp only [spec_l10Name.m]
 obtain ⟨m, rfl, hm, h⟩ := h
 match o, h with
 | none, h => exact tt h (tl ⟨⟨m, rfl, hm, rfl⟩, fun v hv => by cases hv⟩)
 | some r, ⟨hb, hr⟩ =>
  subst hr
  refine tf hb (tif (fun c => ?_) fun c => ?_)
  ·have e : l.drop m = [] := List.drop_eq_nil_of_le (by omega)
   rw [e]
   exact tl ⟨⟨m, rfl, hm, rfl⟩, fun v hv => by cases hv⟩
  ·have hi : m < l.length := by omega
   have w : IntKind.wrap IntKind.i64 (((m + 1 : Nat) : Int) - 1) = (m : Int) := by rw [wrap_id (by omega) (by omega)]; omega
   rw [getD_in hi, drop_at hi, wrap_succ (by omega), w, getD_in hi]
   refine ti hi ?_
   simp only [nameS]
   refine tneq (fun c => ?_) fun c => ?_
   ·rw [show (l[m].1 == 1) = false by simp [c]]
    exact tl ⟨⟨m, rfl, hm, rfl⟩, fun v hv => by cases hv⟩
   ·rw [show (l[m].1 == 1) = true by simp [c]]
    refine ti hi (tl ⟨⟨m + 1, rfl, hi, hb, rfl⟩, fun v hv => ?_⟩)
    simp only [cond_true, Option.some.injEq] at hv
    rw [← hv]
def Dq (l : List Tok) (x : Option (Df × List Tok)) (r : ByteArray × List Col × List By × List Ix × Int × Bool) : Prop := St l (x.map (·.2)) r.2.2.2.2.1 r.2.2.2.2.2 ∧ ∀ v, x = some v → (r.1, r.2.1, r.2.2.1, r.2.2.2.1) = v.1
theorem partsS_none (q : ByteArray → Int) (k : Nat) : partsS q k none = none := by cases k <;> rfl
theorem partsS_len (q : ByteArray → Int) : ∀ (k : Nat) (r : List Tok) (ps : List By) (r' : List Tok), partsS q k (some r) = some (ps, r') → ps.length + r'.length ≤ r.length ∧ ∃ a, r = a ++ r'
 | 0, _, _, _, h => by cases h
 | k + 1, r, ps, r', h => by
  rw [partsS] at h
  cases hn : nameS (some r) with
  | none => rw [hn] at h; cases h
  | some v =>
   obtain ⟨nm, r1⟩ := v
   rw [hn] at h
   have e := Option.some.inj (nameS_some hn)
   simp only at e h
   subst e
   obtain ⟨r2, e2⟩ := isS_some wDesc r1
   have s2 : ∃ a, r1 = a ++ r2 := by
    cases c : (isS wDesc (some r1)).1 with
    | false => rw [isS_false c] at e2; exact ⟨[], by rw [Option.some.inj e2]; rfl⟩
    | true =>
     obtain ⟨t, r3, e3, _, e5⟩ := isS_true c
     rw [e5] at e2
     exact ⟨[t], by rw [Option.some.inj e3, Option.some.inj e2]; rfl⟩
   obtain ⟨a, rfl⟩ := s2
   rw [e2] at h
   cases c : (isS mSemi (some r2)).1 with
   | true =>
    rw [c, cond_true] at h
    obtain ⟨t, r3, e3, e4, e5⟩ := isS_true c
    obtain rfl := Option.some.inj e3
    rw [e5] at h
    simp only [Option.map_some, Option.some.injEq, Prod.mk.injEq] at h
    obtain ⟨rfl, rfl⟩ := h
    refine ⟨by simp only [List.length_append, List.length_cons, List.length_nil]; omega, (1, nm) :: (a ++ [t]), by simp⟩
   | false =>
    rw [c, cond_false] at h
    cases hm : mustS mComma (some r2) with
    | none => rw [hm, partsS_none] at h; cases h
    | some r3 =>
     rw [hm] at h
     obtain ⟨t, e3, _⟩ := mustS_some hm
     obtain rfl := Option.some.inj e3
     cases hr : partsS q k (some r3) with
     | none => rw [hr] at h; cases h
     | some w =>
      rw [hr] at h
      obtain ⟨ps2, r4⟩ := w
      simp only [Option.map_some, Option.some.injEq, Prod.mk.injEq] at h
      obtain ⟨rfl, rfl⟩ := h
      obtain ⟨q1, b, rfl⟩ := partsS_len q k r3 ps2 r4 hr
      refine ⟨by simp only [List.length_append, List.length_cons] at q1 ⊢; omega, (1, nm) :: (a ++ t :: b), by simp⟩
def lastI (s : ByteArray) : Nat → Int → List Col → Int
 | _, a, [] => a
 | i, a, c :: r => lastI s (i + 1) (bif isT c.1 s then (i : Int) else a) r
def qI (cs : List Col) (s : ByteArray) : Int := lastI s 0 (-1) cs
theorem impl_tokens_typed.sp {d : Nat} (hd : 2 ≤ d) {l : List Tok} (hl : l.length ≤ 500) {o : Rest} {n : Int} {bad : Bool} (h : St l o n bad) : Tells (impl_tokens_typed.f d (l, n, bad)) fun r => St l ((nameS o).bind fun v => bif tyNo v.1 == 0 then none else some v.2) r.2.1 r.2.2 ∧ ∀ v, nameS o = some v → r.1 = tyNo v.1 := by
 obtain ⟨d, rfl, _⟩ := dep hd
 rw [impl_tokens_typed.t_eq]
 dsimp only [impl_tokens_typed.m]
 refine tb (impl_tokens_name.sp (by omega) hl h) fun r hr => ?_
 cases hn : nameS o with
 | none =>
  rw [hn] at hr
  have b := hr.1.off
  have hb := hr.1.bad
  have g : ∀ t : Int, (fun x : Int × Int × Bool => St l ((none : Option (ByteArray × List Tok)).bind fun v => bif tyNo v.1 == 0 then none else some v.2) x.2.1 x.2.2 ∧ ∀ v, (none : Option (ByteArray × List Tok)) = some v → x.1 = tyNo v.1) (t, r.2.1, r.2.2) := fun t => ⟨by rw [hb]; exact b, fun v hv => by cases hv⟩
  exact tbif (fun _ => tl (g 1)) fun _ => tbif (fun _ => tl (g 2)) fun _ => tbif (fun _ => tl (g 3)) fun _ => tbif (fun _ => tl (g 4)) fun _ => tl ⟨b, fun v hv => by cases hv⟩
 | some v =>
  obtain ⟨ty, r1⟩ := v
  rw [hn] at hr
  have e : r.1 = ty := hr.2 _ rfl
  have s : St l (some r1) r.2.1 r.2.2 := hr.1
  rw [e]
  have yes : ∀ t : Int, tyNo ty = t → t ≠ 0 → (fun x : Int × Int × Bool => St l ((some (ty, r1)).bind fun v => bif tyNo v.1 == 0 then none else some v.2) x.2.1 x.2.2 ∧ ∀ v, some (ty, r1) = some v → x.1 = tyNo v.1) (t, r.2.1, r.2.2) := fun t e1 e2 => by
   refine ⟨?_, fun v hv => ?_⟩
   ·simp only [Option.bind_some, e1]
    rw [show (t == 0) = false by simpa using e2]
    exact s
   ·obtain rfl := Option.some.inj hv; exact e1.symm
  have u1 : isT ty (tyAt 1) = (ty.toList == (⟨#[105, 110, 116]⟩ : ByteArray).toList) := rfl
  have u2 : isT ty (tyAt 2) = (ty.toList == (⟨#[110, 117, 109]⟩ : ByteArray).toList) := rfl
  have u3 : isT ty (tyAt 3) = (ty.toList == (⟨#[116, 101, 120, 116]⟩ : ByteArray).toList) := rfl
  have u4 : isT ty (tyAt 4) = (ty.toList == (⟨#[98, 111, 111, 108]⟩ : ByteArray).toList) := rfl
  refine tbif (fun c => tl (yes 1 ?_ (by decide))) fun c1 => tbif (fun c => tl (yes 2 ?_ (by decide))) fun c2 => tbif (fun c => tl (yes 3 ?_ (by decide))) fun c3 => tbif (fun c => tl (yes 4 ?_ (by decide))) fun c4 => tl ?_
  ·unfold tyNo; rw [u1, c]; rfl
  ·unfold tyNo; rw [u1, c1, u2, c]; rfl
  ·unfold tyNo; rw [u1, c1, u2, c2, u3, c]; rfl
  ·unfold tyNo; rw [u1, c1, u2, c2, u3, c3, u4, c]; rfl
  ·have z : tyNo ty = 0 := by unfold tyNo; rw [u1, c1, u2, c2, u3, c3, u4, c4]; rfl
   refine ⟨?_, fun v hv => ?_⟩
   ·simp only [Option.bind_some, z]
    exact s.off
   ·obtain rfl := Option.some.inj hv; exact z.symm
theorem impl_tokens_parts.sp {d : Nat} (hd : 3 ≤ d) {l : List Tok} (hl : l.length ≤ 500) {a : ByteArray} {cs : List Col} {ps : List By} {xs : List Ix} (hc : cs.length ≤ 1000) {o : Rest} {n : Int} {bad : Bool} (h : St l o n bad) : Tells (impl_tokens_parts.f d (l, n, bad, a, cs, ps, xs)) fun r => St l ((partsS (qI cs) 1000 o).map (·.2)) r.2.1 r.2.2 ∧ ∀ v, partsS (qI cs) 1000 o = some v → r.1 = v.1 := by
 obtain ⟨d, rfl, _⟩ := dep hd
 rw [impl_tokens_parts.t_eq]
 dsimp only [impl_tokens_parts.m]
 have key : ∀ (R k : Nat) (o : Rest) (n : Int) (bad : Bool) (acc : List By), muO o < R → muO o ≤ k → acc.length + muO o ≤ 600 → St l o n bad → Tells (iter (impl_tokens_parts.S0 d) R (l, n, bad, a, cs, ps, xs, acc)) fun r => St l ((partsS (qI cs) k o).map (·.2)) r.2.1 r.2.2 ∧ ∀ v, partsS (qI cs) k o = some v → r.1 = acc ++ v.1 := by
  intro R
  induction R with
  | zero => intro k o n bad acc h1; omega
  | succ R ih =>
   intro k o n bad acc h1 h2 h3 h
   simp only [iter]
   generalize iter (impl_tokens_parts.S0 d) R = L at ih
   dsimp only [impl_tokens_parts.S0, impl_tokens_parts.s0]
   match o, h with
   | none, h =>
    exact tf (by rw [h.bad]; rfl) (tl ⟨by rw [partsS_none]; exact h, fun v hv => by rw [partsS_none] at hv; cases hv⟩)
   | some r, h =>
    have e2 : muO (some r) = r.length + 1 := rfl
    obtain ⟨k, rfl⟩ : ∃ k', k = k' + 1 := ⟨k - 1, by omega⟩
    refine tt (by rw [h.fine]; rfl) (tb (impl_tokens_name.sp (by omega) hl h) fun r1 g1 => ?_)
    refine loopQ (σ := Int) (impl_tokens_parts.S2 d L) cs.length (fun at_ i => (r1.1, at_, cs, (cs.length : Int), i, l, r1.2.1, r1.2.2, a, cs, ps, xs, acc)) (fun at_ i => lastI r1.1 i at_ (cs.drop i) = qI cs r1.1) (fun _ _ x => St l ((partsS (qI cs) (k + 1) (some r)).map (·.2)) x.2.1 x.2.2 ∧ ∀ v, partsS (qI cs) (k + 1) (some r) = some v → x.1 = acc ++ v.1) ?_ ?_ rnds 0 (-1) (by omega) (rnds_gt (by omega)) rfl
    ·intro L2 at_ hat
     rw [List.drop_length] at hat
     have hat : at_ = qI cs r1.1 := hat
     subst hat
     dsimp only [impl_tokens_parts.S2, impl_tokens_parts.s2]
     refine tn (by omega) (tb (impl_tokens_maybe.sp (by omega) hl g1.1 wDesc) fun r2 g2 => tp (by simp only [List.length_cons, List.length_nil]; omega) (tb (impl_tokens_maybe.sp (by omega) hl g2.2 mSemi) fun r3 g3 => ?_))
     have ln := (nameS_mu (some r)).2 (by omega)
     have l2 := isS_mu wDesc ((nameS (some r)).map (·.2))
     cases c : (isS mSemi (isS wDesc ((nameS (some r)).map (·.2))).2).1 with
     | true =>
      refine tt (by rw [g3.1, c]) (tl ?_)
      rw [partsS]
      cases hn : nameS (some r) with
      | none => rw [hn] at c; cases c
      | some v =>
       obtain ⟨nm, r5⟩ := v
       have e1 := g1.2 _ hn
       rw [hn] at g2 g3 c
       simp only [Option.map_some] at g2 g3 c ⊢
       simp only at e1
       rw [c, cond_true]
       obtain ⟨t, r6, e6, _, e8⟩ := isS_true c
       rw [e8] at g3 ⊢
       refine ⟨g3.2, fun v hv => ?_⟩
       obtain rfl := Option.some.inj hv
       simp only
       rw [e1, g2.1]
     | false =>
      refine tf (by rw [g3.1, c]) (tb (impl_tokens_want.sp (by omega) hl g3.2 mComma) fun r4 g4 => ?_)
      rw [isS_false c] at g4
      have l4 := mustS_mu mComma (isS wDesc ((nameS (some r)).map (·.2))).2
      refine (ih k _ _ _ (acc ++ [(qI cs r1.1, r2.1)]) (by omega) (by omega) (by simp only [List.length_append, List.length_cons, List.length_nil]; omega) g4).mono fun x hx => ?_
      rw [partsS]
      cases hn : nameS (some r) with
      | none =>
       rw [hn] at hx
       have hx1 := hx.1
       rw [show mustS mComma (isS wDesc ((none : Option (ByteArray × List Tok)).map (·.2))).2 = none from rfl, partsS_none] at hx1
       exact ⟨hx1, fun v hv => by cases hv⟩
      | some v =>
       obtain ⟨nm, r5⟩ := v
       have e1 := g1.2 _ hn
       rw [hn] at hx c g2
       simp only [Option.map_some] at hx c g2 ⊢
       simp only at e1
       rw [c, cond_false]
       cases hp : partsS (qI cs) k (mustS mComma (isS wDesc (some r5)).2) with
       | none => rw [hp] at hx; exact ⟨hx.1, fun v hv => by cases hv⟩
       | some w =>
        rw [hp] at hx
        refine ⟨hx.1, fun v hv => ?_⟩
        obtain rfl := Option.some.inj hv
        rw [hx.2 _ rfl, e1, g2.1]
        simp
    ·intro L2 at_ i hat hi ih2
     dsimp only [impl_tokens_parts.S2, impl_tokens_parts.s2]
     refine tp (by omega) (ti hi ?_)
     rw [getD_in hi, wrap_succ (by omega)]
     rw [drop_at hi, lastI] at hat
     refine tbif (fun c => ih2 _ ?_) fun c => ih2 _ ?_
     ·rw [show isT cs[i].1 r1.1 = true from c] at hat; exact hat
     ·rw [show isT cs[i].1 r1.1 = false from c] at hat; exact hat
 have h5 := h.mu
 exact key rnds 1000 o n bad [] (Nat.lt_of_le_of_lt h5 (rnds_gt (by omega))) (by omega) (by simp; omega) h
theorem colI_run (o : Rest) : (colI o).map (·.2) = mustS mSemi (isS wNull ((nameS ((nameS o).map (·.2))).bind fun v => bif tyNo v.1 == 0 then none else some v.2)).2 ∧ ∀ v, colI o = some v → ∃ nm r ty r2, nameS o = some (nm, r) ∧ nameS (some r) = some (ty, r2) ∧ v.1 = (nm, tyNo ty, (isS wNull ((nameS ((nameS o).map (·.2))).bind fun v => bif tyNo v.1 == 0 then none else some v.2)).1) := by
 unfold colI
 cases hn : nameS o with
 | none => exact ⟨rfl, fun v hv => by cases hv⟩
 | some v =>
  obtain ⟨nm, r⟩ := v
  simp only [Option.map_some]
  cases hn2 : nameS (some r) with
  | none => exact ⟨rfl, fun v hv => by cases hv⟩
  | some v =>
   obtain ⟨ty, r2⟩ := v
   simp only [Option.bind_some]
   cases c : (tyNo ty == 0) with
   | true => exact ⟨rfl, fun v hv => by cases hv⟩
   | false =>
    simp only [cond_false]
    cases hm : mustS mSemi (isS wNull (some r2)).2 with
    | none => exact ⟨rfl, fun v hv => by cases hv⟩
    | some r3 => exact ⟨rfl, fun v hv => ⟨nm, r, ty, r2, rfl, hn2, by obtain rfl := Option.some.inj hv; rfl⟩⟩
theorem idxsS_none (q : ByteArray → Int) (N k : Nat) : idxsS q N k none = none := by cases k <;> rfl
theorem colsS_none (cp : Rest → Option (Col × List Tok)) (k : Nat) : colsS cp k none = none := by cases k <;> rfl
theorem partsS_mu (q : ByteArray → Int) (k : Nat) (o : Rest) : muO ((partsS q k o).map (·.2)) ≤ muO o := by
 cases o with
 | none => rw [partsS_none]; exact Nat.le_refl _
 | some r =>
  cases h : partsS q k (some r) with
  | none => exact Nat.zero_le _
  | some v =>
   have := (partsS_len q k r v.1 v.2 h).1
   show v.2.length + 1 ≤ r.length + 1
   omega
theorem impl_tokens_def.idx {d : Nat} (hd : 3 ≤ d) {l : List Tok} (hl : l.length ≤ 500) (z : ByteArray) (z1 : List Col) (z2 : List By) (z3 : List Ix) (nm : ByteArray) {cs : List Col} (hc : cs.length ≤ 1000) (ps : List By) : ∀ (R k : Nat) (o : Rest) (n : Int) (bad : Bool) (acc : List Ix), muO o < R → muO o ≤ k → acc.length + muO o ≤ 600 → St l o n bad → Tells (iter (impl_tokens_def.S2 d) R (l, n, bad, z, z1, z2, z3, nm, cs, ps, acc)) fun r => Dq l ((idxsS (qI cs) 1000 k o).map fun v => ((nm, cs, ps, acc ++ v.1), v.2)) r := by
 intro R
 induction R with
 | zero => intro k o n bad acc h1; omega
 | succ R ih =>
  intro k o n bad acc h1 h2 h3 h
  simp only [iter]
  generalize iter (impl_tokens_def.S2 d) R = L at ih
  dsimp only [impl_tokens_def.S2, impl_tokens_def.s2]
  match o, h with
  | none, h =>
   refine tf (by rw [h.bad]; rfl) (tl ?_)
   rw [idxsS_none]
   exact ⟨h, fun v hv => by cases hv⟩
  | some r, h =>
   have e2 : muO (some r) = r.length + 1 := rfl
   obtain ⟨k, rfl⟩ : ∃ k', k = k' + 1 := ⟨k - 1, by omega⟩
   refine tt (by rw [h.fine]; rfl) (tb (impl_tokens_maybe.sp (by omega) hl h mClose) fun r1 g1 => ?_)
   cases c : (isS mClose (some r)).1 with
   | true =>
    refine tf (by rw [g1.1, c]; rfl) (tl ?_)
    rw [idxsS]
    rw [c, cond_true]
    obtain ⟨t, r6, e6, _, e8⟩ := isS_true c
    have g2 := g1.2
    rw [e8] at g2 ⊢
    refine ⟨g2, fun v hv => ?_⟩
    obtain rfl := Option.some.inj hv
    simp
   | false =>
    refine tt (by rw [g1.1, c]; rfl) ?_
    have g2 := g1.2
    rw [isS_false c] at g2
    have fin : ∀ (u : Bool) (o3 : Rest) (n3 : Int) (b3 : Bool), u = (isS wUnique (some r)).1 → o3 = (bif (isS wUnique (some r)).1 then (isS wUnique (some r)).2 else mustS wIndex (some r)) → St l o3 n3 b3 → muO o3 ≤ muO (some r) → Tells (Option.bind (impl_tokens_name.f d (l, n3, b3)) fun r15 => Option.bind (impl_tokens_parts.f d (l, r15.2.1, r15.2.2, nm, cs, ps, acc)) fun r16 =>
      bif decide ((List.length acc + List.length ([(r15.1, u, r16.1)] : List (ByteArray × Bool × (List (Int × Bool))))) * 48 ≤ 140737488355328) then L (l, r16.2.1, r16.2.2, z, z1, z2, z3, nm, cs, ps, acc ++ ([(r15.1, u, r16.1)] : List (ByteArray × Bool × (List (Int × Bool))))) else none)
      fun x => Dq l ((idxsS (qI cs) 1000 (k + 1) (some r)).map fun v => ((nm, cs, ps, acc ++ v.1), v.2)) x := fun u o3 n3 b3 hu ho g3 hm => by
     refine tb (impl_tokens_name.sp (by omega) hl g3) fun r15 g15 => tb (impl_tokens_parts.sp (by omega) hl hc g15.1) fun r16 g16 => tp (by simp only [List.length_cons, List.length_nil]; omega) ?_
     have m1 := partsS_mu (qI cs) 1000 ((nameS o3).map (·.2))
     have m2 := nameS_mu o3
     have m3 : muO ((partsS (qI cs) 1000 ((nameS o3).map (·.2))).map (·.2)) < muO (some r) := by
      by_cases z : muO o3 = 0
      ·omega
      ·have := m2.2 z; omega
     refine (ih k _ _ _ (acc ++ [(r15.1, u, r16.1)]) (by omega) (by omega) (by simp only [List.length_append, List.length_cons, List.length_nil]; omega) g16.1).mono fun x hx => ?_
     have step : idxsS (qI cs) 1000 (k + 1) (some r) = match idxS1 (qI cs) 1000 (some r) with
       | none => none
       | some (x, r2) => (idxsS (qI cs) 1000 k (some r2)).map fun v => (x :: v.1, v.2) := by
      rw [idxsS]
      rw [c, cond_false]
      all_goals rfl
     rw [step]
     unfold idxS1
     rw [← ho]
     cases hn : nameS o3 with
     | none =>
      rw [hn, show ((none : Option (ByteArray × List Tok)).map (·.2)) = none from rfl, partsS_none, show ((none : Option (List By × List Tok)).map (·.2)) = none from rfl, idxsS_none] at hx
      exact ⟨hx.1, fun v hv => by cases hv⟩
     | some v =>
      obtain ⟨w, r4⟩ := v
      have e15 := g15.2 _ hn
      rw [hn] at hx g16
      simp only [Option.map_some] at hx g16 ⊢
      cases hp : partsS (qI cs) 1000 (some r4) with
      | none =>
       rw [hp, show ((none : Option (List By × List Tok)).map (·.2)) = none from rfl, idxsS_none] at hx
       exact ⟨hx.1, fun v hv => by cases hv⟩
      | some v =>
       obtain ⟨ps2, r5⟩ := v
       have e16 := g16.2 _ hp
       rw [hp] at hx
       simp only [Option.map_some] at hx ⊢
       cases hr : idxsS (qI cs) 1000 k (some r5) with
       | none => rw [hr] at hx; exact ⟨hx.1, fun v hv => by cases hv⟩
       | some v =>
        rw [hr] at hx
        refine ⟨hx.1, fun v hv => ?_⟩
        obtain rfl := Option.some.inj hv
        have := hx.2 _ rfl
        simp only at this e15 e16 ⊢
        rw [this, e15, e16, hu]
        simp
    refine tb (impl_tokens_maybe.sp (by omega) hl g2 wUnique) fun r2 g3 => ?_
    have mu := isS_mu wUnique (some r)
    cases cu : (isS wUnique (some r)).1 with
    | true =>
     refine tf (by rw [g3.1, cu]; rfl) ?_
     exact fin r2.1 _ _ _ g3.1 (by rw [cu]; rfl) g3.2 mu
    | false =>
     have g4 := g3.2
     rw [isS_false cu] at g4
     refine tt (by rw [g3.1, cu]; rfl) (tb (impl_tokens_want.sp (by omega) hl g4 wIndex) fun r5 g5 => ?_)
     exact fin r2.1 _ _ _ g3.1 (by rw [cu]; rfl) g5 (mustS_mu _ _)
theorem impl_tokens_def.sp {d : Nat} (hd : 4 ≤ d) {l : List Tok} (hl : l.length ≤ 500) {o : Rest} {n : Int} {bad : Bool} (h : St l o n bad) : Tells (impl_tokens_def.f d (l, n, bad)) fun r => Dq l (defS colI qI 1000 o) r := by
 obtain ⟨d, rfl, _⟩ := dep hd
 rw [impl_tokens_def.t_eq]
 dsimp only [impl_tokens_def.m]
 refine tb (impl_tokens_want.sp (by omega) hl h wTable) fun r1 g1 => tb (impl_tokens_name.sp (by omega) hl g1) fun r2 g2 => tb (impl_tokens_want.sp (by omega) hl g2.1 mOpen) fun r3 g3 => ?_
 have tail : ∀ (o : Rest) (n : Int) (bad : Bool) (cs : List Col), cs.length ≤ 600 → St l o n bad → Tells (Option.bind (impl_tokens_parts.f d (l, n, bad, r2.1, cs, ([] : List (Int × Bool)), ([] : List (ByteArray × Bool × (List (Int × Bool)))))) fun r9 => iter (impl_tokens_def.S2 d) rnds (l, r9.2.1, r9.2.2, ByteArray.empty, ([] : List (ByteArray × Int × Bool)), ([] : List (Int × Bool)), ([] : List (ByteArray × Bool × (List (Int × Bool)))), r2.1, cs, r9.1, ([] : List (ByteArray × Bool × (List (Int × Bool))))))
   fun x => Dq l (match o with | none => none | some r => tailS qI 1000 r2.1 cs r) x := fun o n bad cs hc h => by
  refine tb (impl_tokens_parts.sp (by omega) hl (by omega) h) fun r9 g9 => ?_
  have mu := g9.1.mu
  refine (impl_tokens_def.idx (by omega) hl _ _ _ _ _ (by omega) _ rnds 1000 _ _ _ [] (Nat.lt_of_le_of_lt mu (rnds_gt (by omega))) (by omega) (by simp only [List.length_nil]; omega) g9.1).mono fun x hx => ?_
  match o, g9, hx with
  | none, g9, hx =>
   rw [partsS_none, show ((none : Option (List By × List Tok)).map (·.2)) = none from rfl, idxsS_none] at hx
   exact ⟨hx.1, fun v hv => by cases hv⟩
  | some r, g9, hx =>
   simp only [tailS]
   cases hp : partsS (qI cs) 1000 (some r) with
   | none =>
    rw [hp, show ((none : Option (List By × List Tok)).map (·.2)) = none from rfl, idxsS_none] at hx
    exact ⟨hx.1, fun v hv => by cases hv⟩
   | some v =>
    obtain ⟨ps, r5⟩ := v
    rw [hp] at hx
    rw [g9.2 _ hp] at hx
    simpa using hx
 have cols : ∀ (R k : Nat) (o : Rest) (n : Int) (bad : Bool) (acc : List Col), muO o < R → muO o ≤ k → acc.length + muO o ≤ 600 → St l o n bad → Tells (iter (impl_tokens_def.S0 d) R (l, n, bad, ByteArray.empty, ([] : List (ByteArray × Int × Bool)), ([] : List (Int × Bool)), ([] : List (ByteArray × Bool × (List (Int × Bool)))), r2.1, acc, ([] : List (Int × Bool)), ([] : List (ByteArray × Bool × (List (Int × Bool))))))
   fun x => Dq l (match colsS colI k o with | none => none | some (cs, r) => tailS qI 1000 r2.1 (acc ++ cs) r) x := by
  intro R
  induction R with
  | zero => intro k o n bad acc h1; omega
  | succ R ih =>
   intro k o n bad acc h1 h2 h3 h
   simp only [iter]
   generalize iter (impl_tokens_def.S0 d) R = L at ih
   dsimp only [impl_tokens_def.S0, impl_tokens_def.s0]
   match o, h with
   | none, h =>
    refine tf (by rw [h.bad]; rfl) ?_
    rw [colsS_none]
    exact tail none n bad acc (by omega) h
   | some r, h =>
    have e2 : muO (some r) = r.length + 1 := rfl
    obtain ⟨k, rfl⟩ : ∃ k', k = k' + 1 := ⟨k - 1, by omega⟩
    refine tt (by rw [h.fine]; rfl) (tb (impl_tokens_maybe.sp (by omega) hl h wPrimary) fun r4 g4 => ?_)
    cases c : (isS wPrimary (some r)).1 with
    | true =>
     refine tf (by rw [g4.1, c]; rfl) ?_
     have := tail _ _ _ acc (by omega) g4.2
     rw [colsS]
     rw [c, cond_true]
     obtain ⟨t, r6, e6, _, e8⟩ := isS_true c
     rw [e8] at this ⊢
     simpa using this
    | false =>
     refine tt (by rw [g4.1, c]; rfl) ?_
     have g := g4.2
     rw [isS_false c] at g
     refine tb (impl_tokens_name.sp (by omega) hl g) fun r5 g5 => tb (impl_tokens_typed.sp (by omega) hl g5.1) fun r6 g6 => tb (impl_tokens_maybe.sp (by omega) hl g6.1 wNull) fun r7 g7 => tb (impl_tokens_want.sp (by omega) hl g7.2 mSemi) fun r8 g8 => tp (by simp only [List.length_cons, List.length_nil]; omega) ?_
     have cr := colI_run (some r)
     rw [← cr.1] at g8
     have mu : muO ((colI (some r)).map (·.2)) < muO (some r) := by
      rw [cr.1]
      have m1 := mustS_mu mSemi (isS wNull ((nameS ((nameS (some r)).map (·.2))).bind fun v => bif tyNo v.1 == 0 then none else some v.2)).2
      have m2 := isS_mu wNull ((nameS ((nameS (some r)).map (·.2))).bind fun v => bif tyNo v.1 == 0 then none else some v.2)
      have m3 := (nameS_mu (some r)).2 (by omega)
      have m4 := (nameS_mu ((nameS (some r)).map (·.2))).1
      have m5 : muO ((nameS ((nameS (some r)).map (·.2))).bind fun v => bif tyNo v.1 == 0 then none else some v.2) ≤ muO ((nameS ((nameS (some r)).map (·.2))).map (·.2)) := by
       cases nameS ((nameS (some r)).map (·.2)) with
       | none => exact Nat.le_refl _
       | some v =>
        simp only [Option.bind_some, Option.map_some]
        cases (tyNo v.1 == 0)
        ·exact Nat.le_refl _
        ·exact Nat.zero_le _
      omega
     refine (ih k _ _ _ (acc ++ [(r5.1, r6.1, r7.1)]) (by omega) (by omega) (by simp only [List.length_append, List.length_cons, List.length_nil]; omega) g8).mono fun x hx => ?_
     rw [colsS]
     rw [c, cond_false]
     cases hc : colI (some r) with
     | none =>
      rw [hc, show ((none : Option (Col × List Tok)).map (·.2)) = none from rfl, colsS_none] at hx
      exact hx
     | some v =>
      obtain ⟨x1, r9⟩ := v
      obtain ⟨nm, ra, ty, rb, n1, n2, e⟩ := cr.2 _ hc
      rw [hc] at hx
      have e5 := g5.2 _ n1
      rw [n1] at g6
      have e6 := g6.2 _ n2
      have e7 := g7.1
      simp only [Option.map_some] at hx ⊢
      simp only at e5 e6 e
      rw [e5, e6, e7, ← e] at hx
      cases hcs : colsS colI k (some r9) with
      | none => rw [hcs] at hx; exact hx
      | some v =>
       rw [hcs] at hx
       simpa using hx
 have mu := g3.mu
 refine (cols rnds 1000 _ _ _ [] (Nat.lt_of_le_of_lt mu (rnds_gt (by omega))) (by omega) (by simp only [List.length_nil]; omega) g3).mono fun x hx => ?_
 unfold defS
 cases hn : nameS (mustS wTable o) with
 | none =>
  rw [hn, show mustS mOpen ((none : Option (ByteArray × List Tok)).map (·.2)) = none from rfl, colsS_none] at hx
  exact hx
 | some v =>
  obtain ⟨nm, r⟩ := v
  have e := g2.2 _ hn
  rw [hn] at hx
  simp only [Option.map_some] at hx ⊢
  simp only at e
  rw [e] at hx
  cases hcs : colsS colI 1000 (mustS mOpen (some r)) with
  | none => rw [hcs] at hx; exact hx
  | some v => rw [hcs] at hx; simpa using hx
def qS (cs : List Col) (s : ByteArray) : Int := firstI s 0 cs
theorem comma_no_semi {o : Rest} (h : (isS mComma o).1 = true) : (isS mSemi o).1 = false := by
 obtain ⟨t, r, e, e2, _⟩ := isS_true h
 subst e
 obtain ⟨a, b⟩ := t
 simp only at e2
 subst e2
 rw [isS_miss comma_ne_semi]
theorem spec_l10Parts.sp {d : Nat} (hd : 3 ≤ d) {l : List Tok} (hl : l.length ≤ 500) {a : ByteArray} {cs : List Col} {ps : List By} {xs : List Ix} (hc : cs.length ≤ 1000) {o : Rest} {n : Int} {bad : Bool} (h : St l o n bad) : Tells (spec_l10Parts.f d (l, n, bad, a, cs, ps, xs)) fun r => St l ((partsS (qS cs) 1000 o).map (·.2)) r.2.1 r.2.2 ∧ ∀ v, partsS (qS cs) 1000 o = some v → r.1 = v.1 := by
 obtain ⟨d, rfl, _⟩ := dep hd
 rw [spec_l10Parts.t_eq]
 dsimp only [spec_l10Parts.m]
 have stop : ∀ (R : Nat) (o : Rest) (n : Int) (bad : Bool) (acc : List By), 0 < R → St l o n bad → Tells (iter (spec_l10Parts.S0 d) R (false, l, n, bad, a, cs, ps, xs, acc)) fun r => St l (mustS mSemi o) r.2.1 r.2.2 ∧ r.1 = acc := fun R o n bad acc hR h => by
  obtain ⟨R, rfl⟩ : ∃ R', R = R' + 1 := ⟨R - 1, by omega⟩
  simp only [iter]
  dsimp only [spec_l10Parts.S0, spec_l10Parts.s0]
  exact tf rfl (tb (spec_l10Must.sp (by omega) hl h mSemi) fun r1 g1 => tl ⟨g1, rfl⟩)
 have key : ∀ (R k : Nat) (o : Rest) (n : Int) (bad : Bool) (acc : List By), muO o < R → muO o ≤ k → acc.length + muO o ≤ 600 → St l o n bad → Tells (iter (spec_l10Parts.S0 d) R (true, l, n, bad, a, cs, ps, xs, acc)) fun r => St l ((partsS (qS cs) k o).map (·.2)) r.2.1 r.2.2 ∧ ∀ v, partsS (qS cs) k o = some v → r.1 = acc ++ v.1 := by
  intro R
  induction R with
  | zero => intro k o n bad acc h1; omega
  | succ R ih =>
   intro k o n bad acc h1 h2 h3 h
   have stopR := stop R
   simp only [iter]
   match o, h with
   | none, h =>
    dsimp only [spec_l10Parts.S0, spec_l10Parts.s0]
    refine tt rfl (tf (by rw [h.bad]; rfl) (tb (spec_l10Must.sp (by omega) hl h mSemi) fun r1 g1 => tl ⟨by rw [partsS_none]; exact g1, fun v hv => by rw [partsS_none] at hv; cases hv⟩))
   | some r, h =>
    have e2 : muO (some r) = r.length + 1 := rfl
    obtain ⟨k, rfl⟩ : ∃ k', k = k' + 1 := ⟨k - 1, by omega⟩
    have hR : 0 < R := by omega
    generalize iter (spec_l10Parts.S0 d) R = L at ih stopR
    dsimp only [spec_l10Parts.S0, spec_l10Parts.s0]
    refine tt rfl (tt (by rw [h.fine]; rfl) (tb (spec_l10Name.sp (by omega) hl h) fun r1 g1 => ?_))
    have ln := (nameS_mu (some r)).2 (by omega)
    have l2 := isS_mu wDesc ((nameS (some r)).map (·.2))
    refine tc (spec_l9Col.sp (x := (a, cs, ps, xs)) (by omega) (by show cs.length ≤ _; omega) r1.1) (tb (spec_l10Is.sp (by omega) hl g1.1 wDesc) fun r3 g3 => tp (by simp only [List.length_cons, List.length_nil]; omega) (tb (spec_l10Is.sp (by omega) hl g3.2 mComma) fun r4 g4 => ?_))
    cases c : (isS mComma (isS wDesc ((nameS (some r)).map (·.2))).2).1 with
    | true =>
     rw [g4.1, c]
     have l4 := isS_mu mComma (isS wDesc ((nameS (some r)).map (·.2))).2
     have no := comma_no_semi c
     have g5 := g4.2
     rw [← isS_must_yes c] at g5 l4
     refine (ih k _ _ _ (acc ++ [(firstI r1.1 0 cs, r3.1)]) (by omega) (by omega) (by simp only [List.length_append, List.length_cons, List.length_nil]; omega) g5).mono fun x hx => ?_
     rw [partsS]
     cases hn : nameS (some r) with
     | none => rw [hn] at c; cases c
     | some v =>
      obtain ⟨nm, r5⟩ := v
      have e1 := g1.2 _ hn
      rw [hn] at hx no g3
      simp only [Option.map_some] at hx no g3 ⊢
      simp only at e1
      rw [no, cond_false]
      cases hp : partsS (qS cs) k (mustS mComma (isS wDesc (some r5)).2) with
      | none => rw [hp] at hx; exact ⟨hx.1, fun v hv => by cases hv⟩
      | some w =>
       rw [hp] at hx
       refine ⟨hx.1, fun v hv => ?_⟩
       obtain rfl := Option.some.inj hv
       rw [hx.2 _ rfl, e1, g3.1]
       simp [qS]
    | false =>
     rw [g4.1, c]
     have g5 := g4.2
     rw [isS_false c] at g5
     refine (stopR _ _ _ (acc ++ [(firstI r1.1 0 cs, r3.1)]) hR g5).mono fun x hx => ?_
     rw [partsS]
     cases hn : nameS (some r) with
     | none =>
      rw [hn] at hx
      exact ⟨hx.1, fun v hv => by cases hv⟩
     | some v =>
      obtain ⟨nm, r5⟩ := v
      have e1 := g1.2 _ hn
      rw [hn] at hx c g3
      simp only [Option.map_some] at hx c g3 ⊢
      simp only at e1
      cases cs2 : (isS mSemi (isS wDesc (some r5)).2).1 with
      | true =>
       rw [cond_true]
       rw [isS_must_yes cs2] at hx
       obtain ⟨t, r6, e6, _, e8⟩ := isS_true cs2
       rw [e8] at hx ⊢
       refine ⟨hx.1, fun v hv => ?_⟩
       obtain rfl := Option.some.inj hv
       rw [hx.2, e1, g3.1]
       rfl
      | false =>
       rw [cond_false, isS_must_no c, partsS_none]
       rw [isS_must_no cs2] at hx
       exact ⟨hx.1, fun v hv => by cases hv⟩
 have h5 := h.mu
 exact key rnds 1000 o n bad [] (Nat.lt_of_le_of_lt h5 (rnds_gt (by omega))) (by omega) (by simp; omega) h
def tyO : Rest → Int × Rest
 | none => (0, none)
 | some r => ((tySkip r).1, some (tySkip r).2)
theorem tyO_eq (o : Rest) : tyO o = bif (isS (tyAt 1) o).1 then (1, (isS (tyAt 1) o).2) else bif (isS (tyAt 2) o).1 then (2, (isS (tyAt 2) o).2) else bif (isS (tyAt 3) o).1 then (3, (isS (tyAt 3) o).2) else bif (isS (tyAt 4) o).1 then (4, (isS (tyAt 4) o).2) else (0, o) := by
 match o with
 | none => rfl
 | some [] => rfl
 | some (t :: r) =>
  simp only [tyO, tySkip, tyNo, isS]
  cases isT t.2 (tyAt 1) with
  | true => rfl
  | false =>
   cases isT t.2 (tyAt 2) with
   | true => rfl
   | false =>
    cases isT t.2 (tyAt 3) with
    | true => rfl
    | false =>
     cases isT t.2 (tyAt 4) with
     | true => rfl
     | false => rfl
theorem tyO_mu (o : Rest) : muO (tyO o).2 ≤ muO o := by
 match o with
 | none => exact Nat.le_refl _
 | some [] => exact Nat.le_refl _
 | some (t :: r) =>
  simp only [tyO, tySkip]
  cases (tyNo t.2 == 0) <;> simp [muO]
theorem colS1_run (o : Rest) : (colS1 o).map (·.2) = mustS mSemi (isS wNull (tyO ((nameS o).map (·.2))).2).2 ∧ ∀ v, colS1 o = some v → ∃ nm r, nameS o = some (nm, r) ∧ v.1 = (nm, (tyO ((nameS o).map (·.2))).1, (isS wNull (tyO ((nameS o).map (·.2))).2).1) := by
 unfold colS1
 cases hn : nameS o with
 | none => exact ⟨rfl, fun v hv => by cases hv⟩
 | some v =>
  obtain ⟨nm, r⟩ := v
  simp only [Option.map_some, tyO]
  cases hm : mustS mSemi (isS wNull (some (tySkip r).2)).2 with
  | none => exact ⟨rfl, fun v hv => by cases hv⟩
  | some r3 => exact ⟨rfl, fun v hv => ⟨nm, r, rfl, by obtain rfl := Option.some.inj hv; rfl⟩⟩
theorem spec_l10Col.sp {d : Nat} (hd : 3 ≤ d) {l : List Tok} (hl : l.length ≤ 500) {o : Rest} {n : Int} {bad : Bool} (h : St l o n bad) : Tells (spec_l10Col.f d (l, n, bad)) fun r => St l ((colS1 o).map (·.2)) r.2.2.2.1 r.2.2.2.2 ∧ ∀ v, colS1 o = some v → (r.1, r.2.1, r.2.2.1) = v.1 := by
 obtain ⟨d, rfl, _⟩ := dep hd
 rw [spec_l10Col.t_eq]
 dsimp only [spec_l10Col.m]
 refine tb (spec_l10Name.sp (by omega) hl h) fun r1 g1 => ?_
 have cr := colS1_run o
 rw [cr.1]
 suffices g : Tells (iter (spec_l10Col.S0 d) rnds ((1 : Int), l, r1.2.1, r1.2.2, ByteArray.empty, (0 : Int), false, r1.1, (0 : Int), false)) (fun r => St l (mustS mSemi (isS wNull (tyO ((nameS o).map (·.2))).2).2) r.2.2.2.1 r.2.2.2.2 ∧ (r.1, r.2.1, r.2.2.1) = (r1.1, (tyO ((nameS o).map (·.2))).1, (isS wNull (tyO ((nameS o).map (·.2))).2).1)) from g.mono fun r hr => ⟨hr.1, fun v hv => by
  obtain ⟨nm, r5, e1, e2⟩ := cr.2 v hv
  have := g1.2 _ e1
  rw [hr.2, e2, this]⟩
 generalize (nameS o).map (·.2) = o1 at g1
 have g1 := g1.1
 have fin : ∀ (o2 : Rest) (n2 : Int) (b2 : Bool) (t : Int), tyO o1 = (t, o2) → St l o2 n2 b2 → Tells (Option.bind (spec_l10Is.f d (l, n2, b2, (⟨#[110, 117, 108, 108]⟩ : ByteArray))) fun r4 => Option.bind (spec_l10Must.f d (l, r4.2.1, r4.2.2, (⟨#[59]⟩ : ByteArray))) fun r5 => some (r1.1, t, r4.1, r5.1, r5.2)) (fun r => St l (mustS mSemi (isS wNull (tyO o1).2).2) r.2.2.2.1 r.2.2.2.2 ∧ (r.1, r.2.1, r.2.2.1) = (r1.1, (tyO o1).1, (isS wNull (tyO o1).2).1)) := fun o2 n2 b2 t e g => by
  rw [e]
  exact tb (spec_l10Is.sp (by omega) hl g wNull) fun r4 g4 => tb (spec_l10Must.sp (by omega) hl g4.2 mSemi) fun r5 g5 => tl ⟨g5, by rw [g4.1]⟩
 have go : ∀ (L : Int × List Tok × Int × Bool × ByteArray × Int × Bool × ByteArray × Int × Bool → Option (ByteArray × Int × Bool × Int × Bool)) (t : Int) (n2 : Int) (b2 : Bool), 1 ≤ t → t ≤ 4 → St l o1 n2 b2 → ((isS (tyAt t) o1).1 = true → tyO o1 = (t, (isS (tyAt t) o1).2)) → ((isS (tyAt t) o1).1 = false → ∀ n3 b3, St l o1 n3 b3 → Tells (L (t + 1, l, n3, b3, ByteArray.empty, (0 : Int), false, r1.1, (0 : Int), false)) (fun r => St l (mustS mSemi (isS wNull (tyO o1).2).2) r.2.2.2.1 r.2.2.2.2 ∧ (r.1, r.2.1, r.2.2.1) = (r1.1, (tyO o1).1, (isS wNull (tyO o1).2).1))) →
   Tells (spec_l10Col.S0 d L (t, l, n2, b2, ByteArray.empty, (0 : Int), false, r1.1, (0 : Int), false)) (fun r => St l (mustS mSemi (isS wNull (tyO o1).2).2) r.2.2.2.1 r.2.2.2.2 ∧ (r.1, r.2.1, r.2.2.1) = (r1.1, (tyO o1).1, (isS wNull (tyO o1).2).1)) := fun L t n2 b2 t1 t4 g hy hn => by
  dsimp only [spec_l10Col.S0, spec_l10Col.s0]
  refine tp t4 (tc (spec_l9Type.sp (by omega) (by omega) t4) (tb (spec_l10Is.sp (by omega) hl g (tyAt t)) fun r3 g3 => ?_))
  cases c : (isS (tyAt t) o1).1 with
  | true => exact tt (by rw [g3.1, c]) (fin _ _ _ t (hy c) g3.2)
  | false =>
   have g4 := g3.2
   rw [isS_false c] at g4
   rw [wrap_id (by omega) (by omega)]
   exact tf (by rw [g3.1, c]) (hn c _ _ g4)
 obtain ⟨R, hR⟩ : ∃ R, rnds = R + 1 + 1 + 1 + 1 + 1 := ⟨rnds - 5, by have := rnds_gt (n := 9) (by decide); omega⟩
 rw [hR]
 simp only [iter]
 have te := tyO_eq o1
 refine go _ 1 _ _ (by omega) (by omega) g1 (fun c => by rw [te, c]; rfl) fun c1 n3 b3 g3 => go _ 2 _ _ (by omega) (by omega) g3 (fun c => by rw [te, c1, c]; rfl) fun c2 n4 b4 g4 => go _ 3 _ _ (by omega) (by omega) g4 (fun c => by rw [te, c1, c2, c]; rfl) fun c3 n5 b5 g5 => go _ 4 _ _ (by omega) (by omega) g5 (fun c => by rw [te, c1, c2, c3, c]; rfl) fun c4 n6 b6 g6 => ?_
 dsimp only [spec_l10Col.S0, spec_l10Col.s0]
 exact tn (by omega) (fin o1 n6 b6 0 (by rw [te, c1, c2, c3, c4]; rfl) g6)
theorem spec_l10Index.sp {d : Nat} (hd : 4 ≤ d) {l : List Tok} (hl : l.length ≤ 500) {a : ByteArray} {cs : List Col} {ps : List By} {xs : List Ix} (hc : cs.length ≤ 1000) {o : Rest} {n : Int} {bad : Bool} (h : St l o n bad) (u : Bool) : Tells (spec_l10Index.f d (l, n, bad, a, cs, ps, xs, u)) fun r => r.2.1 = u ∧ St l ((partsS (qS cs) 1000 ((nameS o).map (·.2))).map (·.2)) r.2.2.2.1 r.2.2.2.2 ∧ (∀ v, nameS o = some v → r.1 = v.1) ∧ ∀ v, partsS (qS cs) 1000 ((nameS o).map (·.2)) = some v → r.2.2.1 = v.1 := by
 obtain ⟨d, rfl, _⟩ := dep hd
 rw [spec_l10Index.t_eq]
 dsimp only [spec_l10Index.m]
 exact tb (spec_l10Name.sp (by omega) hl h) fun r1 g1 => tb (spec_l10Parts.sp (by omega) hl hc g1.1) fun r2 g2 => tl ⟨rfl, g2.1, g1.2, g2.2⟩
theorem spec_l10Def.idx {d : Nat} (hd : 4 ≤ d) {l : List Tok} (hl : l.length ≤ 500) (z : ByteArray) (z1 : List Col) (z2 : List By) (z3 : List Ix) (nm : ByteArray) {cs : List Col} (hc : cs.length ≤ 1000) (ps : List By) : ∀ (R k : Nat) (o : Rest) (n : Int) (bad : Bool) (acc : List Ix), muO o < R → muO o ≤ k → acc.length + muO o ≤ 600 → St l o n bad → Tells (iter (spec_l10Def.S2 d) R (l, n, bad, z, z1, z2, z3, nm, cs, ps, acc)) fun r => Dq l ((idxsS (qS cs) 1000 k o).map fun v => ((nm, cs, ps, acc ++ v.1), v.2)) r := by
 intro R
 induction R with
 | zero => intro k o n bad acc h1; omega
 | succ R ih =>
  intro k o n bad acc h1 h2 h3 h
  simp only [iter]
  generalize iter (spec_l10Def.S2 d) R = L at ih
  dsimp only [spec_l10Def.S2, spec_l10Def.s2]
  match o, h with
  | none, h =>
   refine tf (by rw [h.bad]; rfl) (tl ?_)
   rw [idxsS_none]
   exact ⟨h, fun v hv => by cases hv⟩
  | some r, h =>
   have e2 : muO (some r) = r.length + 1 := rfl
   obtain ⟨k, rfl⟩ : ∃ k', k = k' + 1 := ⟨k - 1, by omega⟩
   refine tt (by rw [h.fine]; rfl) (tb (spec_l10Is.sp (by omega) hl h mClose) fun r1 g1 => ?_)
   cases c : (isS mClose (some r)).1 with
   | true =>
    refine tf (by rw [g1.1, c]; rfl) (tl ?_)
    rw [idxsS]
    rw [c, cond_true]
    obtain ⟨t, r6, e6, _, e8⟩ := isS_true c
    have g2 := g1.2
    rw [e8] at g2 ⊢
    refine ⟨g2, fun v hv => ?_⟩
    obtain rfl := Option.some.inj hv
    simp
   | false =>
    refine tt (by rw [g1.1, c]; rfl) ?_
    have g2 := g1.2
    rw [isS_false c] at g2
    have fin : ∀ (u : Bool) (o3 : Rest) (n3 : Int) (b3 : Bool), u = (isS wUnique (some r)).1 → o3 = (bif (isS wUnique (some r)).1 then (isS wUnique (some r)).2 else mustS wIndex (some r)) → St l o3 n3 b3 → muO o3 ≤ muO (some r) → Tells (Option.bind (spec_l10Index.f d (l, n3, b3, nm, cs, ps, acc, u)) fun r10 =>
      bif decide ((List.length acc + List.length ([(r10.1, r10.2.1, r10.2.2.1)] : List (ByteArray × Bool × (List (Int × Bool))))) * 48 ≤ 140737488355328) then L (l, r10.2.2.2.1, r10.2.2.2.2, z, z1, z2, z3, nm, cs, ps, acc ++ ([(r10.1, r10.2.1, r10.2.2.1)] : List (ByteArray × Bool × (List (Int × Bool))))) else none)
      fun x => Dq l ((idxsS (qS cs) 1000 (k + 1) (some r)).map fun v => ((nm, cs, ps, acc ++ v.1), v.2)) x := fun u o3 n3 b3 hu ho g3 hm => by
     refine tb (spec_l10Index.sp (by omega) hl hc g3 u) fun r10 g10 => tp (by simp only [List.length_cons, List.length_nil]; omega) ?_
     have m1 := partsS_mu (qS cs) 1000 ((nameS o3).map (·.2))
     have m2 := nameS_mu o3
     have m3 : muO ((partsS (qS cs) 1000 ((nameS o3).map (·.2))).map (·.2)) < muO (some r) := by
      by_cases z : muO o3 = 0
      ·omega
      ·have := m2.2 z; omega
     refine (ih k _ _ _ (acc ++ [(r10.1, r10.2.1, r10.2.2.1)]) (by omega) (by omega) (by simp only [List.length_append, List.length_cons, List.length_nil]; omega) g10.2.1).mono fun x hx => ?_
     have step : idxsS (qS cs) 1000 (k + 1) (some r) = match idxS1 (qS cs) 1000 (some r) with
       | none => none
       | some (x, r2) => (idxsS (qS cs) 1000 k (some r2)).map fun v => (x :: v.1, v.2) := by
      rw [idxsS]
      rw [c, cond_false]
      all_goals rfl
     rw [step]
     unfold idxS1
     rw [← ho]
     cases hn : nameS o3 with
     | none =>
      rw [hn, show ((none : Option (ByteArray × List Tok)).map (·.2)) = none from rfl, partsS_none, show ((none : Option (List By × List Tok)).map (·.2)) = none from rfl, idxsS_none] at hx
      exact ⟨hx.1, fun v hv => by cases hv⟩
     | some v =>
      obtain ⟨w, r4⟩ := v
      have e15 := g10.2.2.1 _ hn
      have e16 := g10.2.2.2
      rw [hn] at hx e16
      simp only [Option.map_some] at hx e16 ⊢
      cases hp : partsS (qS cs) 1000 (some r4) with
      | none =>
       rw [hp, show ((none : Option (List By × List Tok)).map (·.2)) = none from rfl, idxsS_none] at hx
       exact ⟨hx.1, fun v hv => by cases hv⟩
      | some v =>
       obtain ⟨ps2, r5⟩ := v
       have e16 := e16 _ hp
       rw [hp] at hx
       simp only [Option.map_some] at hx ⊢
       cases hr : idxsS (qS cs) 1000 k (some r5) with
       | none => rw [hr] at hx; exact ⟨hx.1, fun v hv => by cases hv⟩
       | some v =>
        rw [hr] at hx
        refine ⟨hx.1, fun v hv => ?_⟩
        obtain rfl := Option.some.inj hv
        have := hx.2 _ rfl
        simp only at this e15 e16 ⊢
        rw [this, e15, e16, g10.1, hu]
        simp
    refine tb (spec_l10Is.sp (by omega) hl g2 wUnique) fun r2 g3 => ?_
    have mu := isS_mu wUnique (some r)
    cases cu : (isS wUnique (some r)).1 with
    | true =>
     refine tf (by rw [g3.1, cu]; rfl) ?_
     exact fin r2.1 _ _ _ g3.1 (by rw [cu]; rfl) g3.2 mu
    | false =>
     have g4 := g3.2
     rw [isS_false cu] at g4
     refine tt (by rw [g3.1, cu]; rfl) (tb (spec_l10Must.sp (by omega) hl g4 wIndex) fun r5 g5 => ?_)
     exact fin r2.1 _ _ _ g3.1 (by rw [cu]; rfl) g5 (mustS_mu _ _)
theorem spec_l10Def.sp {d : Nat} (hd : 5 ≤ d) {l : List Tok} (hl : l.length ≤ 500) {o : Rest} {n : Int} {bad : Bool} (h : St l o n bad) : Tells (spec_l10Def.f d (l, n, bad)) fun r => Dq l (defS colS1 qS 1000 o) r := by
 obtain ⟨d, rfl, _⟩ := dep hd
 rw [spec_l10Def.t_eq]
 dsimp only [spec_l10Def.m]
 refine tb (spec_l10Must.sp (by omega) hl h wTable) fun r1 g1 => tb (spec_l10Name.sp (by omega) hl g1) fun r2 g2 => tb (spec_l10Must.sp (by omega) hl g2.1 mOpen) fun r3 g3 => ?_
 have tail : ∀ (o : Rest) (n : Int) (bad : Bool) (cs : List Col), cs.length ≤ 600 → St l o n bad → Tells (Option.bind (spec_l10Parts.f d (l, n, bad, r2.1, cs, ([] : List (Int × Bool)), ([] : List (ByteArray × Bool × (List (Int × Bool)))))) fun r9 => iter (spec_l10Def.S2 d) rnds (l, r9.2.1, r9.2.2, ByteArray.empty, ([] : List (ByteArray × Int × Bool)), ([] : List (Int × Bool)), ([] : List (ByteArray × Bool × (List (Int × Bool)))), r2.1, cs, r9.1, ([] : List (ByteArray × Bool × (List (Int × Bool))))))
   fun x => Dq l (match o with | none => none | some r => tailS qS 1000 r2.1 cs r) x := fun o n bad cs hc h => by
  refine tb (spec_l10Parts.sp (by omega) hl (by omega) h) fun r9 g9 => ?_
  have mu := g9.1.mu
  refine (spec_l10Def.idx (by omega) hl _ _ _ _ _ (by omega) _ rnds 1000 _ _ _ [] (Nat.lt_of_le_of_lt mu (rnds_gt (by omega))) (by omega) (by simp only [List.length_nil]; omega) g9.1).mono fun x hx => ?_
  match o, g9, hx with
  | none, g9, hx =>
   rw [partsS_none, show ((none : Option (List By × List Tok)).map (·.2)) = none from rfl, idxsS_none] at hx
   exact ⟨hx.1, fun v hv => by cases hv⟩
  | some r, g9, hx =>
   simp only [tailS]
   cases hp : partsS (qS cs) 1000 (some r) with
   | none =>
    rw [hp, show ((none : Option (List By × List Tok)).map (·.2)) = none from rfl, idxsS_none] at hx
    exact ⟨hx.1, fun v hv => by cases hv⟩
   | some v =>
    obtain ⟨ps, r5⟩ := v
    rw [hp] at hx
    rw [g9.2 _ hp] at hx
    simpa using hx
 have cols : ∀ (R k : Nat) (o : Rest) (n : Int) (bad : Bool) (acc : List Col), muO o < R → muO o ≤ k → acc.length + muO o ≤ 600 → St l o n bad → Tells (iter (spec_l10Def.S0 d) R (l, n, bad, ByteArray.empty, ([] : List (ByteArray × Int × Bool)), ([] : List (Int × Bool)), ([] : List (ByteArray × Bool × (List (Int × Bool)))), r2.1, acc, ([] : List (Int × Bool)), ([] : List (ByteArray × Bool × (List (Int × Bool))))))
   fun x => Dq l (match colsS colS1 k o with | none => none | some (cs, r) => tailS qS 1000 r2.1 (acc ++ cs) r) x := by
  intro R
  induction R with
  | zero => intro k o n bad acc h1; omega
  | succ R ih =>
   intro k o n bad acc h1 h2 h3 h
   simp only [iter]
   generalize iter (spec_l10Def.S0 d) R = L at ih
   dsimp only [spec_l10Def.S0, spec_l10Def.s0]
   match o, h with
   | none, h =>
    refine tf (by rw [h.bad]; rfl) ?_
    rw [colsS_none]
    exact tail none n bad acc (by omega) h
   | some r, h =>
    have e2 : muO (some r) = r.length + 1 := rfl
    obtain ⟨k, rfl⟩ : ∃ k', k = k' + 1 := ⟨k - 1, by omega⟩
    refine tt (by rw [h.fine]; rfl) (tb (spec_l10Is.sp (by omega) hl h wPrimary) fun r4 g4 => ?_)
    cases c : (isS wPrimary (some r)).1 with
    | true =>
     refine tf (by rw [g4.1, c]; rfl) ?_
     have := tail _ _ _ acc (by omega) g4.2
     rw [colsS]
     rw [c, cond_true]
     obtain ⟨t, r6, e6, _, e8⟩ := isS_true c
     rw [e8] at this ⊢
     simpa using this
    | false =>
     refine tt (by rw [g4.1, c]; rfl) ?_
     have g := g4.2
     rw [isS_false c] at g
     refine tb (spec_l10Col.sp (by omega) hl g) fun r5 g5 => tp (by simp only [List.length_cons, List.length_nil]; omega) ?_
     have g8 := g5.1
     have cr := colS1_run (some r)
     have mu : muO ((colS1 (some r)).map (·.2)) < muO (some r) := by
      rw [cr.1]
      have m1 := mustS_mu mSemi (isS wNull (tyO ((nameS (some r)).map (·.2))).2).2
      have m2 := isS_mu wNull (tyO ((nameS (some r)).map (·.2))).2
      have m3 := (nameS_mu (some r)).2 (by omega)
      have m4 := tyO_mu ((nameS (some r)).map (·.2))
      omega
     refine (ih k _ _ _ (acc ++ [(r5.1, r5.2.1, r5.2.2.1)]) (by omega) (by omega) (by simp only [List.length_append, List.length_cons, List.length_nil]; omega) g8).mono fun x hx => ?_
     rw [colsS]
     rw [c, cond_false]
     cases hc : colS1 (some r) with
     | none =>
      rw [hc, show ((none : Option (Col × List Tok)).map (·.2)) = none from rfl, colsS_none] at hx
      exact hx
     | some v =>
      obtain ⟨x1, r9⟩ := v
      rw [hc] at hx
      have e5 := g5.2 _ hc
      simp only [Option.map_some] at hx ⊢
      simp only at e5
      rw [e5] at hx
      cases hcs : colsS colS1 k (some r9) with
      | none => rw [hcs] at hx; exact hx
      | some v =>
       rw [hcs] at hx
       simpa using hx
 have mu := g3.mu
 refine (cols rnds 1000 _ _ _ [] (Nat.lt_of_le_of_lt mu (rnds_gt (by omega))) (by omega) (by simp only [List.length_nil]; omega) g3).mono fun x hx => ?_
 unfold defS
 cases hn : nameS (mustS wTable o) with
 | none =>
  rw [hn, show mustS mOpen ((none : Option (ByteArray × List Tok)).map (·.2)) = none from rfl, colsS_none] at hx
  exact hx
 | some v =>
  obtain ⟨nm, r⟩ := v
  have e := g2.2 _ hn
  rw [hn] at hx
  simp only [Option.map_some] at hx ⊢
  simp only at e
  rw [e] at hx
  cases hcs : colsS colS1 1000 (mustS mOpen (some r)) with
  | none => rw [hcs] at hx; exact hx
  | some v => rw [hcs] at hx; simpa using hx
theorem tok_small {t : Tok} (h : tokOk t = true) : t.2.size ≤ 8 := by
 unfold tokOk tokM at h
 rw [← bytesOf_length]
 split at h
 ·have := inB_iff.1 (nameM_end _ _ _ h); omega
 ·split at h
  ·by_cases c : (bytesOf t.2).length = 1
   ·omega
   ·rw [markM_len _ c] at h; cases h
  ·cases h
def Suf (r r' : List Tok) : Prop := ∃ a, r = a ++ r'
theorem Suf.ok {r r' : List Tok} (h : Suf r r') (t : toksOk r) : toksOk r' := by obtain ⟨a, rfl⟩ := h; exact t.right
theorem Suf.trans {a b c : List Tok} (h : Suf a b) (k : Suf b c) : Suf a c := by
 obtain ⟨x, rfl⟩ := h
 obtain ⟨y, rfl⟩ := k
 exact ⟨x ++ y, by simp⟩
theorem Suf.refl (a : List Tok) : Suf a a := ⟨[], rfl⟩
theorem Suf.tl {t : Tok} {a b : List Tok} (h : Suf a b) : Suf (t :: a) b := by obtain ⟨x, rfl⟩ := h; exact ⟨t :: x, rfl⟩
theorem isS_suf {s : ByteArray} {r r' : List Tok} (h : (isS s (some r)).2 = some r') : Suf r r' := by
 cases c : (isS s (some r)).1 with
 | false => rw [isS_false c] at h; rw [Option.some.inj h]; exact Suf.refl _
 | true =>
  obtain ⟨t, r3, e3, _, e5⟩ := isS_true c
  rw [e5] at h
  rw [Option.some.inj e3, Option.some.inj h]
  exact (Suf.refl _).tl
theorem Suf.len {a b : List Tok} (h : Suf a b) : b.length ≤ a.length := by obtain ⟨x, rfl⟩ := h; simp
structure CpFit (cp : Rest → Option (Col × List Tok)) : Prop where
 fit : ∀ r c r', toksOk r → cp (some r) = some (c, r') → c.1.size ≤ 8 ∧ r'.length + 1 ≤ r.length ∧ Suf r r'
theorem semi_suf {r2 r' : List Tok} (h : mustS mSemi (isS wNull (some r2)).2 = some r') : Suf r2 r' := by
 obtain ⟨r3, e3⟩ := isS_some wNull r2
 rw [e3] at h
 obtain ⟨t, e, _⟩ := mustS_some h
 obtain rfl := Option.some.inj e
 exact (isS_suf e3).trans ((Suf.refl _).tl)
theorem colI_fit : CpFit colI where
 fit r c r' ht h := by
  unfold colI at h
  cases hn : nameS (some r) with
  | none => rw [hn] at h; cases h
  | some v =>
   obtain ⟨nm, r1⟩ := v
   rw [hn] at h
   have e := Option.some.inj (nameS_some hn)
   simp only at e h
   subst e
   cases hn2 : nameS (some r1) with
   | none => rw [hn2] at h; cases h
   | some v =>
    obtain ⟨ty, r2⟩ := v
    rw [hn2] at h
    have e := Option.some.inj (nameS_some hn2)
    simp only at e h
    subst e
    cases c0 : (tyNo ty == 0) with
    | true => rw [c0] at h; cases h
    | false =>
     rw [c0, cond_false] at h
     cases hm : mustS mSemi (isS wNull (some r2)).2 with
     | none => rw [hm] at h; cases h
     | some r3 =>
      rw [hm] at h
      simp only [Option.map_some, Option.some.injEq, Prod.mk.injEq] at h
      obtain ⟨rfl, rfl⟩ := h
      have s := semi_suf hm
      exact ⟨tok_small ht.hd, by have := s.len; simp only [List.length_cons]; omega, s.tl.tl⟩
theorem colS1_fit : CpFit colS1 where
 fit r c r' ht h := by
  unfold colS1 at h
  cases hn : nameS (some r) with
  | none => rw [hn] at h; cases h
  | some v =>
   obtain ⟨nm, r1⟩ := v
   rw [hn] at h
   have e := Option.some.inj (nameS_some hn)
   simp only at e h
   subst e
   cases hm : mustS mSemi (isS wNull (some (tySkip r1).2)).2 with
   | none => rw [hm] at h; cases h
   | some r3 =>
    rw [hm] at h
    simp only [Option.map_some, Option.some.injEq, Prod.mk.injEq] at h
    obtain ⟨rfl, rfl⟩ := h
    have s := semi_suf hm
    have s2 : Suf r1 (tySkip r1).2 := by
     match r1 with
     | [] => exact Suf.refl _
     | t :: r =>
      simp only [tySkip]
      cases (tyNo t.2 == 0)
      ·exact (Suf.refl _).tl
      ·exact Suf.refl _
    have s3 := s2.trans s
    exact ⟨tok_small ht.hd, by have := s3.len; simp only [List.length_cons]; omega, s3.tl⟩
theorem colsS_fit {cp : Rest → Option (Col × List Tok)} (hc : CpFit cp) : ∀ (k : Nat) (r : List Tok) (cs : List Col) (r' : List Tok), toksOk r → colsS cp k (some r) = some (cs, r') → cs.length + r'.length ≤ r.length ∧ (∀ c ∈ cs, c.1.size ≤ 8) ∧ Suf r r'
 | 0, _, _, _, _, h => by cases h
 | k + 1, r, cs, r', ht, h => by
  rw [colsS] at h
  cases c : (isS wPrimary (some r)).1 with
  | true =>
   rw [c, cond_true] at h
   obtain ⟨t, r3, e3, e4, e5⟩ := isS_true c
   obtain rfl := Option.some.inj e3
   rw [e5] at h
   simp only [Option.map_some, Option.some.injEq, Prod.mk.injEq] at h
   obtain ⟨rfl, rfl⟩ := h
   exact ⟨by simp, fun c hc => (by cases hc), (Suf.refl _).tl⟩
  | false =>
   rw [c, cond_false] at h
   cases h1 : cp (some r) with
   | none => rw [h1] at h; cases h
   | some v =>
    obtain ⟨x, r2⟩ := v
    rw [h1] at h
    simp only at h
    cases h2 : colsS cp k (some r2) with
    | none => rw [h2] at h; cases h
    | some w =>
     obtain ⟨cs2, r3⟩ := w
     rw [h2] at h
     simp only [Option.map_some, Option.some.injEq, Prod.mk.injEq] at h
     obtain ⟨rfl, rfl⟩ := h
     have f := hc.fit r x r2 ht h1
     have ih := colsS_fit hc k r2 cs2 r3 (f.2.2.ok ht) h2
     refine ⟨by simp only [List.length_cons]; omega, fun c hc => ?_, f.2.2.trans ih.2.2⟩
     rcases List.mem_cons.1 hc with e | hc
     ·rw [e]; exact f.1
     ·exact ih.2.1 c hc
theorem partsS_suf {q : ByteArray → Int} {k : Nat} {r : List Tok} {ps : List By} {r' : List Tok} (h : partsS q k (some r) = some (ps, r')) : ps.length + r'.length ≤ r.length ∧ Suf r r' := partsS_len q k r ps r' h
theorem idxsS_fit {q : ByteArray → Int} (N : Nat) : ∀ (k : Nat) (r : List Tok) (xs : List Ix) (r' : List Tok), toksOk r → idxsS q N k (some r) = some (xs, r') → xs.length + r'.length ≤ r.length ∧ (∀ x ∈ xs, x.1.size ≤ 8 ∧ x.2.2.length ≤ r.length) ∧ Suf r r'
 | 0, _, _, _, _, h => by cases h
 | k + 1, r, xs, r', ht, h => by
  rw [idxsS] at h
  cases c : (isS mClose (some r)).1 with
  | true =>
   rw [c, cond_true] at h
   obtain ⟨t, r3, e3, e4, e5⟩ := isS_true c
   obtain rfl := Option.some.inj e3
   rw [e5] at h
   simp only [Option.map_some, Option.some.injEq, Prod.mk.injEq] at h
   obtain ⟨rfl, rfl⟩ := h
   exact ⟨by simp, fun c hc => (by cases hc), (Suf.refl _).tl⟩
  | false =>
   rw [c, cond_false] at h
   cases h1 : idxS1 q N (some r) with
   | none => rw [h1] at h; cases h
   | some v =>
    obtain ⟨x, r2⟩ := v
    rw [h1] at h
    simp only at h
    cases h2 : idxsS q N k (some r2) with
    | none => rw [h2] at h; cases h
    | some w =>
     obtain ⟨xs2, r3⟩ := w
     rw [h2] at h
     simp only [Option.map_some, Option.some.injEq, Prod.mk.injEq] at h
     obtain ⟨rfl, rfl⟩ := h
     have one : x.1.size ≤ 8 ∧ x.2.2.length ≤ r.length ∧ r2.length + 1 ≤ r.length ∧ Suf r r2 := by
      unfold idxS1 at h1
      have first : ∀ r1, (bif (isS wUnique (some r)).1 then (isS wUnique (some r)).2 else mustS wIndex (some r)) = some r1 → Suf r r1 := fun r1 e => by
       cases cu : (isS wUnique (some r)).1 with
       | true => rw [cu, cond_true] at e; exact isS_suf e
       | false =>
        rw [cu, cond_false] at e
        obtain ⟨t, e2, _⟩ := mustS_some e
        rw [Option.some.inj e2]
        exact (Suf.refl _).tl
      cases ho : (bif (isS wUnique (some r)).1 then (isS wUnique (some r)).2 else mustS wIndex (some r)) with
      | none => rw [ho] at h1; simp [nameS] at h1
      | some r1 =>
       rw [ho] at h1
       have s1 := first r1 ho
       cases hn : nameS (some r1) with
       | none => rw [hn] at h1; cases h1
       | some v =>
        obtain ⟨nm, r4⟩ := v
        rw [hn] at h1
        simp only at h1
        have e := Option.some.inj (nameS_some hn)
        simp only at e
        subst e
        cases hr : partsS q N (some r4) with
        | none => rw [hr] at h1; cases h1
        | some w2 =>
         obtain ⟨ps, r5⟩ := w2
         rw [hr] at h1
         simp only [Option.map_some, Option.some.injEq, Prod.mk.injEq] at h1
         obtain ⟨rfl, rfl⟩ := h1
         have p := partsS_suf hr
         have l1 := s1.len
         simp only [List.length_cons] at l1
         have pl := p.2.len
         exact ⟨tok_small (s1.ok ht).hd, by simp only; omega, by omega, s1.trans p.2.tl⟩
     have ih := idxsS_fit N k r2 xs2 r3 (one.2.2.2.ok ht) h2
     refine ⟨by simp only [List.length_cons]; omega, fun y hy => ?_, one.2.2.2.trans ih.2.2⟩
     rcases List.mem_cons.1 hy with e | hy
     ·rw [e]; exact ⟨one.1, one.2.1⟩
     ·have := ih.2.1 y hy; exact ⟨this.1, by omega⟩
theorem defS_fit {cp : Rest → Option (Col × List Tok)} (hc : CpFit cp) {qf : List Col → ByteArray → Int} {N : Nat} {r : List Tok} {x : Df} {r' : List Tok} (ht : toksOk r) (hl : r.length ≤ 500) (h : defS cp qf N (some r) = some (x, r')) : dfFit 600 x ∧ r'.length + 1 ≤ r.length ∧ Suf r r' := by
 unfold defS at h
 cases h0 : mustS wTable (some r) with
 | none => rw [h0] at h; simp [nameS] at h
 | some r0 =>
  rw [h0] at h
  obtain ⟨t, e, _⟩ := mustS_some h0
  obtain rfl := Option.some.inj e
  cases hn : nameS (some r0) with
  | none => rw [hn] at h; cases h
  | some v =>
   obtain ⟨nm, r1⟩ := v
   rw [hn] at h
   simp only at h
   have e := Option.some.inj (nameS_some hn)
   simp only at e
   subst e
   cases hm : mustS mOpen (some r1) with
   | none => rw [hm, colsS_none] at h; cases h
   | some r2 =>
    rw [hm] at h
    obtain ⟨t2, e2, _⟩ := mustS_some hm
    obtain rfl := Option.some.inj e2
    cases hcs : colsS cp N (some r2) with
    | none => rw [hcs] at h; cases h
    | some v =>
     obtain ⟨cs, r3⟩ := v
     rw [hcs] at h
     simp only at h
     unfold tailS at h
     cases hps : partsS (qf cs) N (some r3) with
     | none => rw [hps] at h; cases h
     | some v =>
      obtain ⟨ps, r4⟩ := v
      rw [hps] at h
      simp only at h
      cases hxs : idxsS (qf cs) N N (some r4) with
      | none => rw [hxs] at h; cases h
      | some v =>
       obtain ⟨xs, r5⟩ := v
       rw [hxs] at h
       simp only [Option.map_some, Option.some.injEq, Prod.mk.injEq] at h
       obtain ⟨rfl, rfl⟩ := h
       simp only [List.length_cons] at hl ⊢
       have f1 := colsS_fit hc N r2 cs r3 ht.tl.tl.tl hcs
       have f2 := partsS_suf hps
       have f3 := idxsS_fit N N r4 xs r5 (f2.2.ok (f1.2.2.ok ht.tl.tl.tl)) hxs
       refine ⟨⟨by have := tok_small ht.tl.hd; simp only at this ⊢; omega, ⟨by simp only; omega, fun c hc => by have := f1.2.1 c hc; omega⟩, by simp only; omega, by simp only; omega, fun y hy => by have := f3.2.1 y hy; omega⟩, by omega, ((f1.2.2.trans f2.2).trans f3.2.2).tl.tl.tl⟩
theorem allS_none (cp : Rest → Option (Col × List Tok)) (qf : List Col → ByteArray → Int) (N k : Nat) : allS cp qf N k none = none := by cases k <;> rfl
def parseA (cp : Rest → Option (Col × List Tok)) (qf : List Col → ByteArray → Int) (k : Nat) (acc : List Df) (o : Rest) : List Df × Bool := match allS cp qf 1000 k o with
 | none => ([], false)
 | some out => bif decide (firstM (acc ++ out) = -1) then (acc ++ out, true) else ([], false)
theorem impl_ParseDefs.loop {d : Nat} (hd : 4 ≤ d) (hd2 : 6 ≤ d) {l : List Tok} (hl : l.length ≤ 500) : ∀ (R k : Nat) (o : Rest) (n : Int) (bad : Bool) (acc : List Df), muO o < R → muO o ≤ k → acc.length + muO o ≤ 600 → St l o n bad → (∀ r, o = some r → toksOk r ∧ ∀ x ∈ acc, dfFit 600 x) → Tells (iter (impl_ParseDefs.S0 d) R (l, n, bad, acc)) (· = parseA colI qI k acc o) := by
 intro R
 induction R with
 | zero => intro k o n bad acc h1; omega
 | succ R ih =>
  intro k o n bad acc h1 h2 h3 h hf
  simp only [iter]
  generalize iter (impl_ParseDefs.S0 d) R = L at ih
  dsimp only [impl_ParseDefs.S0, impl_ParseDefs.s0]
  match o, h, hf with
  | none, h, _ =>
   refine tf (by rw [h.bad]; rfl) (tt h.bad (tl ?_))
   unfold parseA
   rw [allS_none]
  | some r, h, hf =>
   have e2 : muO (some r) = r.length + 1 := rfl
   obtain ⟨k, rfl⟩ : ∃ k', k = k' + 1 := ⟨k - 1, by omega⟩
   obtain ⟨ht, hx⟩ := hf r rfl
   have hmu := h.mu
   refine tt (by rw [h.fine]; rfl) ?_
   match r, h, ht, h1, h2, h3, e2, hmu with
   | [], h, ht, h1, h2, h3, e2, hmu =>
    have hlen : l.length ≤ n := by
     obtain ⟨m, rfl, hm, _, e⟩ := h
     have := congrArg List.length e
     simp at this; omega
    refine tn (by omega) (tf h.fine (tc (impl_FirstBad.sp (by omega) (by omega) fun x hx1 => (hx x hx1).mono (by decide)) ?_))
    unfold parseA
    simp only [allS, List.append_nil]
    exact tneq (fun c => tl (by rw [decide_eq_false c]; rfl)) fun c => tl (by rw [decide_eq_true c]; rfl)
   | t :: r, h, ht, h1, h2, h3, e2, hmu =>
    have hlt : n < l.length := by
     obtain ⟨m, rfl, hm, _, e⟩ := h
     have := congrArg List.length e
     simp only [List.length_drop, List.length_cons] at this; omega
    refine tp hlt (tb (impl_tokens_def.sp (by omega) hl h) fun r2 g2 => tp (by simp only [List.length_cons, List.length_nil]; omega) ?_)
    have e3 : muO (some (t :: r)) = r.length + 2 := rfl
    have st : parseA colI qI (k + 1) acc (some (t :: r)) = match defS colI qI 1000 (some (t :: r)) with
      | none => ([], false)
      | some (x, r2) => parseA colI qI k (acc ++ [x]) (some r2) := by
     unfold parseA
     simp only [allS]
     cases defS colI qI 1000 (some (t :: r)) with
     | none => rfl
     | some v =>
      obtain ⟨x, r3⟩ := v
      simp only
      cases allS colI qI 1000 k (some r3) with
      | none => rfl
      | some out => simp
    rw [st]
    cases hdf : defS colI qI 1000 (some (t :: r)) with
    | none =>
     rw [hdf] at g2
     refine (ih k none _ _ _ (by show 0 < R; omega) (Nat.zero_le _) (by show _ + 0 ≤ _; simp only [List.length_append, List.length_cons, List.length_nil]; omega) g2.1 (fun r hr => by cases hr)).mono fun y hy => ?_
     rw [hy]
     unfold parseA
     rw [allS_none]
    | some v =>
     obtain ⟨x, r3⟩ := v
     have f := defS_fit colI_fit ht (by simp only [List.length_cons]; omega) hdf
     rw [hdf] at g2
     have ev := g2.2 _ rfl
     simp only [List.length_cons] at f
     have e4 : muO (some r3) = r3.length + 1 := rfl
     rw [ev]
     exact ih k (some r3) _ _ (acc ++ [x]) (by omega) (by omega) (by simp only [List.length_append, List.length_cons, List.length_nil]; omega) g2.1 fun r hr => by
      obtain rfl := Option.some.inj hr
      exact ⟨f.2.2.ok ht, mem_snoc hx f.1⟩
theorem spec_ParseDefs.loop {d : Nat} (hd : 5 ≤ d) (hd2 : 7 ≤ d) {l : List Tok} (hl : l.length ≤ 500) : ∀ (R k : Nat) (o : Rest) (n : Int) (bad : Bool) (acc : List Df), muO o < R → muO o ≤ k → acc.length + muO o ≤ 600 → St l o n bad → (∀ r, o = some r → toksOk r ∧ ∀ x ∈ acc, dfFit 600 x) → Tells (iter (spec_ParseDefs.S0 d) R (l, n, bad, acc)) (· = parseA colS1 qS k acc o) := by
 intro R
 induction R with
 | zero => intro k o n bad acc h1; omega
 | succ R ih =>
  intro k o n bad acc h1 h2 h3 h hf
  simp only [iter]
  generalize iter (spec_ParseDefs.S0 d) R = L at ih
  dsimp only [spec_ParseDefs.S0, spec_ParseDefs.s0]
  match o, h, hf with
  | none, h, _ =>
   refine tf (by rw [h.bad]; rfl) (tt h.bad (tl ?_))
   unfold parseA
   rw [allS_none]
  | some r, h, hf =>
   have e2 : muO (some r) = r.length + 1 := rfl
   obtain ⟨k, rfl⟩ : ∃ k', k = k' + 1 := ⟨k - 1, by omega⟩
   obtain ⟨ht, hx⟩ := hf r rfl
   have hmu := h.mu
   refine tt (by rw [h.fine]; rfl) ?_
   match r, h, ht, h1, h2, h3, e2, hmu with
   | [], h, ht, h1, h2, h3, e2, hmu =>
    have hlen : l.length ≤ n := by
     obtain ⟨m, rfl, hm, _, e⟩ := h
     have := congrArg List.length e
     simp at this; omega
    refine tn (by omega) (tf h.fine (tc (spec_FirstBad.sp (by omega) (by omega) fun x hx1 => (hx x hx1).mono (by decide)) ?_))
    unfold parseA
    simp only [allS, List.append_nil]
    exact tneq (fun c => tl (by rw [decide_eq_false c]; rfl)) fun c => tl (by rw [decide_eq_true c]; rfl)
   | t :: r, h, ht, h1, h2, h3, e2, hmu =>
    have hlt : n < l.length := by
     obtain ⟨m, rfl, hm, _, e⟩ := h
     have := congrArg List.length e
     simp only [List.length_drop, List.length_cons] at this; omega
    refine tp hlt (tb (spec_l10Def.sp (by omega) hl h) fun r2 g2 => tp (by simp only [List.length_cons, List.length_nil]; omega) ?_)
    have e3 : muO (some (t :: r)) = r.length + 2 := rfl
    have st : parseA colS1 qS (k + 1) acc (some (t :: r)) = match defS colS1 qS 1000 (some (t :: r)) with
      | none => ([], false)
      | some (x, r2) => parseA colS1 qS k (acc ++ [x]) (some r2) := by
     unfold parseA
     simp only [allS]
     cases defS colS1 qS 1000 (some (t :: r)) with
     | none => rfl
     | some v =>
      obtain ⟨x, r3⟩ := v
      simp only
      cases allS colS1 qS 1000 k (some r3) with
      | none => rfl
      | some out => simp
    rw [st]
    cases hdf : defS colS1 qS 1000 (some (t :: r)) with
    | none =>
     rw [hdf] at g2
     refine (ih k none _ _ _ (by show 0 < R; omega) (Nat.zero_le _) (by show _ + 0 ≤ _; simp only [List.length_append, List.length_cons, List.length_nil]; omega) g2.1 (fun r hr => by cases hr)).mono fun y hy => ?_
     rw [hy]
     unfold parseA
     rw [allS_none]
    | some v =>
     obtain ⟨x, r3⟩ := v
     have f := defS_fit colS1_fit ht (by simp only [List.length_cons]; omega) hdf
     rw [hdf] at g2
     have ev := g2.2 _ rfl
     simp only [List.length_cons] at f
     have e4 : muO (some r3) = r3.length + 1 := rfl
     rw [ev]
     exact ih k (some r3) _ _ (acc ++ [x]) (by omega) (by omega) (by simp only [List.length_append, List.length_cons, List.length_nil]; omega) g2.1 fun r hr => by
      obtain rfl := Option.some.inj hr
      exact ⟨f.2.2.ok ht, mem_snoc hx f.1⟩
def parseM (cp : Rest → Option (Col × List Tok)) (qf : List Col → ByteArray → Int) (ts : List Tok) : List Df × Bool := parseA cp qf 600 [] (some ts)
theorem lexT_facts (s : ByteArray) : toksOk (lexT s).1 ∧ (lexT s).1.length ≤ 500 ∧ ((lexT s).2 = -1 ∨ (lexT s).1 = [] ∧ 0 ≤ (lexT s).2) := lexB_facts _ _ _ _ (bytesOf_bytes s) (fun x hx => by cases hx) (by simp)
def parsedI (s : ByteArray) : List Df × Bool := bif decide ((lexT s).2 = -1) then parseM colI qI (lexT s).1 else ([], false)
def parsedS (s : ByteArray) : List Df × Bool := bif decide ((lexT s).2 = -1) then parseM colS1 qS (lexT s).1 else ([], false)
theorem impl_ParseDefs.sp {d : Nat} (hd : 7 ≤ d) {s : ByteArray} (hs : s.size ≤ 140737488351232) : impl_ParseDefs.f d s = some (parsedI s) := by
 obtain ⟨d, rfl, _⟩ := dep hd
 rw [impl_ParseDefs.t_eq]
 dsimp only [impl_ParseDefs.m]
 have f := lexT_facts s
 unfold parsedI
 refine Tells.eq (tc (impl_Lex.sp (by omega) hs) (tneq (fun c => tl (by rw [decide_eq_false c]; rfl)) fun c => ?_))
 rw [decide_eq_true c]
 have st : St (lexT s).1 (some (lexT s).1) ((0 : Nat) : Int) false := ⟨0, rfl, Nat.zero_le _, rfl, rfl⟩
 have e : muO (some (lexT s).1) = (lexT s).1.length + 1 := rfl
 exact impl_ParseDefs.loop (by omega) (by omega) f.2.1 rnds 600 _ _ _ [] (by rw [e]; exact rnds_gt (by omega)) (by omega) (by simp only [List.length_nil]; omega) st fun r hr => by
  obtain rfl := Option.some.inj hr
  exact ⟨f.1, fun x hx => by cases hx⟩
theorem spec_ParseDefs.sp {d : Nat} (hd : 8 ≤ d) {s : ByteArray} (hs : s.size ≤ 140737488351232) : spec_ParseDefs.f d s = some (parsedS s) := by
 obtain ⟨d, rfl, _⟩ := dep hd
 rw [spec_ParseDefs.t_eq]
 dsimp only [spec_ParseDefs.m]
 have f := lexT_facts s
 unfold parsedS
 refine Tells.eq (tc (spec_Lex.sp (by omega) hs) ?_)
 by_cases c : (lexT s).2 = -1
 ·rw [decide_eq_true c, show ((lexT s).2 != -1) = false by simp [c]]
  have st : St (lexT s).1 (some (lexT s).1) ((0 : Nat) : Int) false := ⟨0, rfl, Nat.zero_le _, rfl, rfl⟩
  have e : muO (some (lexT s).1) = (lexT s).1.length + 1 := rfl
  exact spec_ParseDefs.loop (by omega) (by omega) f.2.1 rnds 600 _ _ _ [] (by rw [e]; exact rnds_gt (by omega)) (by omega) (by simp only [List.length_nil]; omega) st fun r hr => by
   obtain rfl := Option.some.inj hr
   exact ⟨f.1, fun x hx => by cases hx⟩
 ·rw [decide_eq_false c, show ((lexT s).2 != -1) = true by simp [c]]
  have st : St (lexT s).1 none ((0 : Nat) : Int) true := ⟨0, rfl, Nat.zero_le _, rfl⟩
  refine (spec_ParseDefs.loop (d := d) (by omega) (by omega) f.2.1 rnds 600 none _ _ [] (rnds_gt (n := 0) (by decide)) (Nat.zero_le _) (by simp [muO]) st fun r hr => by cases hr).mono fun r hr => ?_
  rw [hr]
  unfold parseA
  rw [allS_none]
  rfl
theorem at_drop {cs : List Col} {i : Int} (h0 : 0 ≤ i) (h1 : i < cs.length) : colAt cs i = cs[i.toNat]'(by omega) := by
 unfold colAt
 rw [List.getD_eq_getElem?_getD, List.getElem?_eq_getElem (by omega)]
 rfl
theorem lastI_ok (s : ByteArray) : ∀ (r : List Col) (i : Nat) (a : Int), lastI s i a r = a ∨ ∃ j : Nat, ∃ h : j < r.length, lastI s i a r = ((i + j : Nat) : Int) ∧ (r[j]).1 = s
 | [], i, a => .inl rfl
 | c :: r, i, a => by
  rw [lastI]
  cases h : isT c.1 s with
  | true =>
   rcases lastI_ok s r (i + 1) (i : Int) with e | ⟨j, hj, e, e2⟩
   ·exact .inr ⟨0, by simp, by rw [cond_true, e]; rfl, isT_iff.1 h⟩
   ·exact .inr ⟨j + 1, by simp; omega, by rw [cond_true, e]; omega, e2⟩
  | false =>
   rcases lastI_ok s r (i + 1) a with e | ⟨j, hj, e, e2⟩
   ·exact .inl (by rw [cond_false, e])
   ·exact .inr ⟨j + 1, by simp; omega, by rw [cond_false, e]; omega, e2⟩
theorem firstI_ok (s : ByteArray) : ∀ (r : List Col) (i : Nat), firstI s i r = -1 ∨ ∃ j : Nat, ∃ h : j < r.length, firstI s i r = ((i + j : Nat) : Int) ∧ (r[j]).1 = s
 | [], i => .inl rfl
 | c :: r, i => by
  rw [firstI]
  cases h : isT c.1 s with
  | true => exact .inr ⟨0, by simp, by rw [cond_true]; rfl, isT_iff.1 h⟩
  | false =>
   rcases firstI_ok s r (i + 1) with e | ⟨j, hj, e, e2⟩
   ·exact .inl (by rw [cond_false, e])
   ·exact .inr ⟨j + 1, by simp; omega, by rw [cond_false, e]; omega, e2⟩
theorem qI_ok : qfOk qI := fun cs nm h0 h1 => by
 unfold qI at h0 h1 ⊢
 rcases lastI_ok nm cs 0 (-1) with e | ⟨j, hj, e, e2⟩
 ·omega
 ·rw [e, at_drop (by omega) (by omega)]
  simpa using e2
theorem qS_ok : qfOk qS := fun cs nm h0 h1 => by
 unfold qS at h0 h1 ⊢
 rcases firstI_ok nm cs 0 with e | ⟨j, hj, e, e2⟩
 ·omega
 ·rw [e, at_drop (by omega) (by omega)]
  simpa using e2
theorem onceR_nodup : ∀ (l p : List ByteArray), onceR p l = true → l.Nodup ∧ ∀ x ∈ l, x ∉ p
 | [], _, _ => ⟨List.nodup_nil, fun x hx => by cases hx⟩
 | x :: r, p, h => by
  rw [onceR, Bool.and_eq_true, Bool.not_eq_true', List.any_eq_false] at h
  have ih := onceR_nodup r (p ++ [x]) h.2
  refine ⟨List.nodup_cons.2 ⟨fun hx => ih.2 x hx (by simp), ih.1⟩, fun y hy => ?_⟩
  rcases List.mem_cons.1 hy with e | hy
  ·rw [e]; exact fun hp => h.1 x hp (isT_self x)
  ·exact fun hp => ih.2 y hy (List.mem_append_left _ hp)
theorem lastI_none {s : ByteArray} : ∀ (r : List Col) (i : Nat) (a : Int), (∀ c ∈ r, c.1 ≠ s) → lastI s i a r = a
 | [], _, _, _ => rfl
 | c :: r, i, a, h => by
  have : isT c.1 s = false := by
   cases e : isT c.1 s with
   | false => rfl
   | true => exact absurd (isT_iff.1 e) (h c List.mem_cons_self)
  rw [lastI, this, cond_false]
  exact lastI_none r (i + 1) a fun x hx => h x (List.mem_cons_of_mem _ hx)
theorem find_at : ∀ (r : List Col) (i j : Nat) (a : Int) (h : j < r.length), (r.map (·.1)).Nodup → lastI (r[j]).1 i a r = ((i + j : Nat) : Int) ∧ firstI (r[j]).1 i r = ((i + j : Nat) : Int)
 | c :: r, i, 0, a, h, hn => by
  rw [List.map_cons, List.nodup_cons] at hn
  simp only [List.getElem_cons_zero]
  rw [lastI, firstI, isT_self, cond_true, cond_true]
  refine ⟨?_, rfl⟩
  exact lastI_none r (i + 1) _ fun x hx e => hn.1 (by rw [← e]; exact List.mem_map_of_mem (f := fun y : Col => y.1) hx)
 | c :: r, i, j + 1, a, h, hn => by
  rw [List.map_cons, List.nodup_cons] at hn
  simp only [List.length_cons] at h
  have hj : j < r.length := by omega
  simp only [List.getElem_cons_succ]
  have ne : isT c.1 (r[j]).1 = false := by
   cases e : isT c.1 (r[j]).1 with
   | false => rfl
   | true => exact absurd (by rw [isT_iff.1 e]; exact List.mem_map_of_mem (f := fun y : Col => y.1) (List.getElem_mem hj)) hn.1
  rw [lastI, firstI, ne, cond_false, cond_false]
  have := find_at r (i + 1) j a hj hn.2
  rw [show i + (j + 1) = i + 1 + j by omega]
  exact this
theorem qI_full : qfFull qI := fun cs h i h0 h1 => by
 have n := (onceR_nodup _ _ h).1
 rw [at_drop h0 h1]
 unfold qI
 rw [(find_at cs 0 i.toNat (-1) (by omega) n).1]
 omega
theorem qS_full : qfFull qS := fun cs h i h0 h1 => by
 have n := (onceR_nodup _ _ h).1
 rw [at_drop h0 h1]
 unfold qS
 rw [(find_at cs 0 i.toNat (-1) (by omega) n).2]
 omega
theorem firstR_len (l : List Df) : ∀ (r : List Df) (i : Nat), i ≤ 3 → firstR l i r = -1 → i + r.length ≤ 3
 | [], i, hi, _ => by simpa using hi
 | y :: r, i, hi, h => by
  rw [firstR] at h
  cases c : (decide (checkM y = 0) && decide (i ≤ 2)) with
  | false => rw [c, cond_false] at h; omega
  | true =>
   rw [c, cond_true] at h
   rw [Bool.and_eq_true, decide_eq_true_iff, decide_eq_true_iff] at c
   cases c2 : (l.take i).any (fun e => isT e.1 y.1) with
   | true => rw [c2, cond_true] at h; omega
   | false =>
    rw [c2, cond_false] at h
    have := firstR_len l r (i + 1) (by omega) h
    simp only [List.length_cons]; omega
theorem parse_iff {cp : Rest → Option (Col × List Tok)} (hc : CpOk cp) {qf : List Col → ByteArray → Int} (hq : qfOk qf) (hf : qfFull qf) {ts : List Tok} (ht : toksOk ts) : (∃ out, firstM out = -1 ∧ ts = allToks out ∧ parseM cp qf ts = (out, true)) ∨ ((∀ out, firstM out = -1 → ts ≠ allToks out) ∧ parseM cp qf ts = ([], false)) := by
 by_cases h : ∃ out, firstM out = -1 ∧ ts = allToks out
 ·obtain ⟨out, h1, h2⟩ := h
  refine .inl ⟨out, h1, h2, ?_⟩
  have f := allS_full hc hf (N := 1000) (by decide) out 600 (firstR_good out out 0 h1) (by have := firstR_len out out 0 (by decide) h1; omega)
  unfold parseM parseA
  rw [h2, f]
  simp only [List.nil_append]
  rw [decide_eq_true h1]; rfl
 ·have h' : ∀ out, firstM out = -1 → ts ≠ allToks out := fun out h1 h2 => h ⟨out, h1, h2⟩
  refine .inr ⟨h', ?_⟩
  unfold parseM parseA
  cases ha : allS cp qf 1000 600 (some ts) with
  | none => rfl
  | some out =>
   simp only [List.nil_append]
   by_cases h1 : firstM out = -1
   ·exact absurd (allS_sound hc hq 1000 600 ts out ht ha (firstR_good out out 0 h1)) (h' out h1)
   ·rw [decide_eq_false h1]; rfl
theorem parsed_same (s : ByteArray) : parsedS s = parsedI s := by
 unfold parsedS parsedI
 by_cases c : (lexT s).2 = -1
 ·rw [decide_eq_true c, cond_true, cond_true]
  have f := (lexT_facts s).1
  rcases parse_iff colI_ok qI_ok qI_full f with ⟨o1, a1, b1, e1⟩ | ⟨n1, e1⟩
  ·rcases parse_iff colS1_ok qS_ok qS_full f with ⟨o2, a2, b2, e2⟩ | ⟨n2, e2⟩
   ·rw [e1, e2]
    have u := allS_full colI_ok qI_full (N := 1000) (by decide) o1 600 (firstR_good o1 o1 0 a1) (by have := firstR_len o1 o1 0 (by decide) a1; omega)
    have v := allS_full colI_ok qI_full (N := 1000) (by decide) o2 600 (firstR_good o2 o2 0 a2) (by have := firstR_len o2 o2 0 (by decide) a2; omega)
    rw [← b1] at u
    rw [← b2, u] at v
    rw [Option.some.inj v]
   ·exact absurd b1 (n2 o1 a1)
  ·rcases parse_iff colS1_ok qS_ok qS_full f with ⟨o2, a2, b2, e2⟩ | ⟨n2, e2⟩
   ·exact absurd b2 (n1 o2 a2)
   ·rw [e1, e2]
 ·rw [decide_eq_false c, cond_false, cond_false]
theorem parsedI_cases (s : ByteArray) : (∃ out, parsedI s = (out, true) ∧ firstM out = -1 ∧ (lexT s).2 = -1 ∧ (lexT s).1 = allToks out) ∨ parsedI s = ([], false) := by
 unfold parsedI
 by_cases c : (lexT s).2 = -1
 ·rw [decide_eq_true c, cond_true]
  rcases parse_iff colI_ok qI_ok qI_full (lexT_facts s).1 with ⟨o1, a1, b1, e1⟩ | ⟨n1, e1⟩
  ·exact .inl ⟨o1, e1, a1, c, b1⟩
  ·exact .inr e1
 ·rw [decide_eq_false c]; exact .inr rfl
theorem defsTx_size (l : List Df) (s : ByteArray) : (l.foldl defsS s).size ≤ s.size + 2001 * l.length := foldl_size defsS 2001 l s fun x _ s => by
 unfold defsS
 have := defTx_size x
 have z : (⟨#[10]⟩ : ByteArray).size = 1 := rfl
 simp only [ByteArray.size_append]; omega
theorem impl_DefsText.sp {d : Nat} (hd : 7 ≤ d) {l : List Df} (hl : l.length ≤ 1000) (hx : ∀ x ∈ l, dfFit 140737488351232 x) : impl_DefsText.f d l = some (defsTx l) := by
 obtain ⟨d, rfl, _⟩ := dep hd
 rw [impl_DefsText.t_eq]
 dsimp only [impl_DefsText.m]
 have z : (⟨#[10]⟩ : ByteArray).size = 1 := rfl
 have z0 : (⟨#[]⟩ : ByteArray).size = 0 := rfl
 refine Tells.eq ?_
 refine loop0 (σ := ByteArray) (impl_DefsText.S0 d) l.length (fun s i => (s, l, (l.length : Int), i)) (fun s i => s = (l.take i).foldl defsS (⟨#[]⟩ : ByteArray)) (fun _ _ r => r = defsTx l) _ (by omega) rfl ?_ ?_
 ·rintro L s rfl
  rw [List.take_length]
  dsimp only [impl_DefsText.S0, impl_DefsText.s0]
  exact tn (by omega) (tl rfl)
 ·rintro L s i rfl hi ih
  have sz := defsTx_size (l.take i) (⟨#[]⟩ : ByteArray)
  rw [List.length_take] at sz
  have ds := defTx_size l[i]
  dsimp only [impl_DefsText.S0, impl_DefsText.s0]
  refine tp (by omega) (ti hi ?_)
  rw [getD_in hi, wrap_succ (by omega)]
  refine tc (impl_DefText.sp (by omega) (hx _ (List.getElem_mem hi))) (tz (by omega) (tz (by rw [app_eq, ByteArray.size_append]; omega) (ih _ ?_)))
  rw [foldl_snoc defsS hi]; rfl
theorem spec_DefsText.sp {d : Nat} (hd : 8 ≤ d) {l : List Df} (hl : l.length ≤ 1000) (hx : ∀ x ∈ l, dfFit 140737488351232 x) : spec_DefsText.f d l = some (defsTx l) := by
 obtain ⟨d, rfl, _⟩ := dep hd
 rw [spec_DefsText.t_eq]
 dsimp only [spec_DefsText.m]
 have z : (⟨#[10]⟩ : ByteArray).size = 1 := rfl
 have z0 : (⟨#[]⟩ : ByteArray).size = 0 := rfl
 refine Tells.eq ?_
 refine loop0 (σ := ByteArray) (spec_DefsText.S0 d) l.length (fun s i => (l, s, i)) (fun s i => s = (l.take i).foldl defsS (⟨#[]⟩ : ByteArray)) (fun _ _ r => r = defsTx l) _ (by omega) rfl ?_ ?_
 ·rintro L s rfl
  rw [List.take_length]
  dsimp only [spec_DefsText.S0, spec_DefsText.s0]
  exact tn (by omega) (tl rfl)
 ·rintro L s i rfl hi ih
  have sz := defsTx_size (l.take i) (⟨#[]⟩ : ByteArray)
  rw [List.length_take] at sz
  have ds := defTx_size l[i]
  dsimp only [spec_DefsText.S0, spec_DefsText.s0]
  refine tp (by omega) (ti hi ?_)
  rw [getD_in hi, wrap_succ (by omega)]
  refine tc (spec_DefText.sp (by omega) (hx _ (List.getElem_mem hi))) (tz (by omega) (tz (by rw [app_eq, ByteArray.size_append]; omega) (ih _ ?_)))
  rw [foldl_snoc defsS hi]
  unfold defsS
  simp only [app_eq, ba_assoc]
def nmT : ByteArray := ⟨#[116]⟩
def nmU : ByteArray := ⟨#[117]⟩
def drawnL (l : List Df) : Prop := ∃ x, drawn nmT x ∧ (l = [x] ∨ ∃ y, drawn nmU y ∧ l = [x, y])
theorem spec_l10Draw.sp {d : Nat} (hd : 6 ≤ d) {b : List Int} {ci h : Int} (hc : cur b ci) : Tells (spec_l10Draw.f d (b, ci, h)) fun r => drawnL r.1 ∧ cur b r.2.1 := by
 obtain ⟨d, rfl, _⟩ := dep hd
 rw [spec_l10Draw.t_eq]
 dsimp only [spec_l10Draw.m]
 refine tb (spec_l9Draw.sp (by omega) hc nmT) fun r1 g1 => tb (spec_l1Once.sp (by omega) g1.2) fun r2 g2 => tbif (fun _ => ?_) fun _ => tl ⟨⟨_, g1.1, .inl rfl⟩, g2⟩
 exact tb (spec_l9Draw.sp (by omega) g2 nmU) fun r3 g3 => tp (by simp) (tl ⟨⟨_, g1.1, .inr ⟨_, g3.1, rfl⟩⟩, g3.2⟩)
theorem drawnL.tab {l : List Df} (h : drawnL l) : 1 ≤ l.length ∧ l.length ≤ 2 ∧ ∀ x ∈ l, tabD 7 x := by
 have up : ∀ {x : Df}, tabD 5 x → tabD 7 x := fun {x} t => by
  obtain ⟨a, ⟨b, c⟩, e, f, g⟩ := t
  exact ⟨a, ⟨by omega, c⟩, by omega, by omega, fun y hy => by have := g y hy; omega⟩
 obtain ⟨x, hx, rfl | ⟨y, hy, rfl⟩⟩ := h
 ·exact ⟨by simp, by simp, fun z hz => by rw [List.mem_singleton.1 hz]; exact up (hx.tab (by decide))⟩
 ·refine ⟨by simp, by simp, fun z hz => ?_⟩
  rcases List.mem_cons.1 hz with e | hz
  ·rw [e]; exact up (hx.tab (by decide))
  ·rw [List.mem_singleton.1 hz]; exact up (hy.tab (by decide))
theorem spec_DrawParseDefs.sp {d : Nat} (hd : 9 ≤ d) {b : List Int} (hl : b.length ≤ 1048576) : Tells (spec_DrawParseDefs.f d b) fun s => s.size ≤ 20000 := by
 obtain ⟨d, rfl, _⟩ := dep hd
 rw [spec_DrawParseDefs.t_eq]
 dsimp only [spec_DrawParseDefs.m]
 refine tb (spec_l1New.sp (by omega) hl) fun r1 h1 => ?_
 rw [h1.1]
 refine tb (spec_l10Draw.sp (by omega) h1.2) fun r2 g2 => ?_
 obtain ⟨t1, t2, t3⟩ := g2.1.tab
 have sz := defsTx_size r2.1 (⟨#[]⟩ : ByteArray)
 have z0 : (⟨#[]⟩ : ByteArray).size = 0 := rfl
 have sz : (defsTx r2.1).size ≤ 5000 := by unfold defsTx; omega
 refine tc (spec_DefsText.sp (by omega) (by omega) fun x hx => (t3 x hx).big (by decide)) ?_
 generalize defsTx r2.1 = s at sz
 have ex : ∀ i j, (ByteArray.extract s i j).size ≤ 5000 := fun i j => by rw [ByteArray.size_extract]; omega
 refine tb (spec_l1Below.sp (by omega) g2.2) fun r4 g4 => teq (fun _ => tb (spec_l1Str.sp (by omega) g4.2.2 (by simp)) fun r5 g5 => tl ?_) fun _ => teq (fun _ => ?_) fun _ => teq (fun _ => ?_) fun _ => tl (by omega)
 ·have h := g5.1
  have small : ∀ x ∈ ([({ data := #[] } : ByteArray)] : List ByteArray), x.size ≤ 20000 := by decide
  revert h
  generalize r5.1 = w
  intro h
  simp only [List.mem_cons, List.not_mem_nil, or_false] at h
  rcases h with e | e | e | e | e | e | e | e | e | e <;> rw [e] <;> decide
 ·rw [wrap_id (by omega) (by omega)]
  refine tb (spec_l1Below.sp (by omega) g4.2.2) fun r6 g6 => ?_
  have b0 := g6.1
  have b1 := g6.2.1 (by omega)
  refine tt (by simp; omega) (tb (spec_l1Str.sp (by omega) g6.2.2 (by simp)) fun r7 g7 => ?_)
  have w7 : r7.1.size ≤ 10 := by
   have h := g7.1
   simp only [List.mem_cons, List.not_mem_nil, or_false] at h
   rcases h with e | e | e | e | e | e <;> rw [e] <;> decide
  have x1 := ex (Int.toNat 0) (Int.toNat r6.1)
  have x2 := ex (Int.toNat r6.1) (Int.toNat (s.size : Int))
  refine tz (by omega) (tt (by simp; omega) (tz (by rw [app_eq, ByteArray.size_append]; omega) (tl ?_)))
  simp only [app_eq, ByteArray.size_append]; omega
 ·rw [wrap_id (by omega) (by omega)]
  refine tb (spec_l1Below.sp (by omega) g4.2.2) fun r6 g6 => ?_
  have b0 := g6.1
  have b1 := g6.2.1 (by omega)
  refine tt (by simp; omega) (tl ?_)
  have := ex (Int.toNat 0) (Int.toNat r6.1)
  omega
theorem good_fit {out : List Df} (h : firstM out = -1) : out.length ≤ 3 ∧ ∀ x ∈ out, goodM x := ⟨by have := firstR_len out out 0 (by decide) h; omega, firstR_good out out 0 h⟩
theorem goodM.fit {x : Df} (g : goodM x) : dfFit 1000 x := by
 obtain ⟨hn, hc, h1, hx⟩ := g.cols
 have t := g.types
 obtain ⟨p1, p2⟩ := g.parts
 have l := partsM_len p1
 have x2 := g.2.2.2.1
 exact ⟨by omega, ⟨by omega, fun c hc => by have := hn c hc; omega⟩, by omega, by omega, fun y hy => by have := hx y hy; have := partsM_len (p2 y hy); omega⟩
theorem partsToks_len (cs : List Col) : ∀ ps : List By, (partsToks cs ps).length ≤ 3 * ps.length
 | [] => by simp [partsToks]
 | [p] => by simp only [partsToks, partToks]; cases p.2 <;> simp
 | p :: q :: r => by
  have := partsToks_len cs (q :: r)
  rw [partsToks]
  simp only [List.length_append, List.length_cons, partToks] at this ⊢
  cases p.2 <;> simp <;> omega
theorem flatMap_le {β : Type} (f : β → List Tok) (k : Nat) : ∀ l : List β, (∀ x ∈ l, (f x).length ≤ k) → (l.flatMap f).length ≤ k * l.length
 | [], _ => by simp
 | y :: r, h => by
  have := flatMap_le f k r fun x hx => h x (List.mem_cons_of_mem _ hx)
  have := h y List.mem_cons_self
  rw [List.flatMap_cons, List.length_append, List.length_cons, Nat.mul_add]; omega
theorem defToks_len {x : Df} (g : goodM x) : (defToks x).length ≤ 100 := by
 have t := g.types
 obtain ⟨p1, p2⟩ := g.parts
 have l := partsM_len p1
 have x2 := g.2.2.2.1
 have a := flatMap_le colToks 4 x.2.1 fun c _ => by unfold colToks; cases c.2.2 <;> simp
 have b := partsToks_len x.2.1 x.2.2.1
 have c := flatMap_le (idxToks x.2.1) 8 x.2.2.2 fun y hy => by
  have := partsToks_len x.2.1 y.2.2
  have := partsM_len (p2 y hy)
  unfold idxToks
  simp only [List.length_cons]; omega
 unfold defToks
 simp only [List.length_cons, List.length_append, List.length_nil]
 omega
theorem allToks_len {l : List Df} (h : firstM l = -1) : (allToks l).length ≤ 500 := by
 have g := good_fit h
 have := flatMap_le defToks 100 l fun x hx => defToks_len (g.2 x hx)
 unfold allToks
 omega
theorem parsed_text {l : List Df} (h : firstM l = -1) : parsedI (defsTx l) = (l, true) ∧ lexT (defsTx l) = (allToks l, -1) := by
 have g := good_fit h
 have lx := (Lx.all l g.2).lex (allToks_len h)
 refine ⟨?_, lx⟩
 unfold parsedI
 rw [lx, decide_eq_true rfl, cond_true]
 have f := allS_full colI_ok qI_full (N := 1000) (by decide) l 600 g.2 (by omega)
 unfold parseM parseA
 rw [f]
 simp only [List.nil_append]
 rw [decide_eq_true h]; rfl
theorem laws_FnDefsRead.pure {d : Nat} (hd : 10 ≤ d) {b : List Int} (h0 : okV (.row (.one (.int .u8))) b) : laws_FnDefsRead.f d b = some true := by
 obtain ⟨d, rfl, _⟩ := dep hd
 rw [laws_FnDefsRead.t_eq]
 dsimp only [laws_FnDefsRead.m]
 refine Tells.eq (tc (laws_big.sp (by omega) b) (tif (fun _ => tl rfl) fun h => ?_))
 refine tb (spec_DrawParseDefs.sp (by omega) (by omega)) fun s hs => ?_
 have sp := spec_ParseDefs.sp (d := d) (s := s) (by omega) (by omega)
 rw [parsed_same] at sp
 refine tc (impl_ParseDefs.sp (by omega) (by omega)) (tc sp (tf (by simp) ?_))
 rcases parsedI_cases s with ⟨out, e, hf, h1, h2⟩ | e
 ·rw [e]
  have g := good_fit hf
  have fit : ∀ x ∈ out, dfFit 140737488351232 x := fun x hx => (g.2 x hx).fit.mono (by decide)
  have pt := (parsed_text hf).2
  have sz := defsTx_size out (⟨#[]⟩ : ByteArray)
  have z0 : (⟨#[]⟩ : ByteArray).size = 0 := rfl
  have sz : (defsTx out).size ≤ 10000 := by unfold defsTx; omega
  have lx := impl_Lex.sp (d := d) (s := s) (by omega) (by omega)
  have lx2 := impl_Lex.sp (d := d) (s := defsTx out) (by omega) (by omega)
  rw [pt] at lx2
  refine tf rfl (tc lx (tc (impl_DefsText.sp (l := out) (by omega) (by omega) fit) (tc lx2 (tneq (fun n => absurd rfl n) fun _ => ?_))))
  rw [h2]
  have al := allToks_len hf
  refine tneq (fun n => absurd rfl n) fun _ => tc (impl_FirstBad.sp (l := out) (by omega) (by omega) fit) (tneq (fun n => absurd hf n) fun _ => ?_)
  refine loopPass (laws_FnDefsRead.S0 d) (allToks out) (fun i => (i, allToks out, allToks out)) _ (by omega) (fun L => ?_) fun L i hi ih => ?_
  ·dsimp only [laws_FnDefsRead.S0, laws_FnDefsRead.s0]
   exact tn (by omega) (tl rfl)
  ·dsimp only [laws_FnDefsRead.S0, laws_FnDefsRead.s0]
   refine tp (by omega) (ti hi (ti hi ?_))
   rw [getD_in hi, wrap_succ (by omega)]
   exact tf (by simp) ih
 ·rw [e]
  exact tt rfl (tt (by simp) (tl rfl))
end Go.PV.T
