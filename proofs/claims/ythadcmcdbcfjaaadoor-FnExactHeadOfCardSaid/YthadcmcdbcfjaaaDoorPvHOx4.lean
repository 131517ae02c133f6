/- Functions of the program by their own lists and numbers. No condition beyond those in each statement. -/
import Derived.Test.YthadcmcdbcfjaaaDoorPvHOx3
import Derived.Lib.Join
import Derived.KernelRfl
set_option linter.unusedVariables false
set_option linter.unusedSimpArgs false
set_option linter.unusedVariables false
namespace Go.PV.T
open Go Go.Proofs
theorem in_def (a lo hi : Int) : (bif decide (a ≥ lo) then some (decide (a ≤ hi)) else some false) = some (inB a lo hi) := by
 by_cases h : lo ≤ a <;> simp [inB, h]
theorem impl_in.sp {d : Nat} (hd : 1 ≤ d) (a lo hi : Int) : impl_in.f d (a, lo, hi) = some (inB a lo hi) := by
 obtain ⟨d, rfl, hd⟩ := dep hd
 rw [impl_in.t_eq]
 exact in_def a lo hi
theorem spec_l1In.sp {d : Nat} (hd : 1 ≤ d) (a lo hi : Int) : spec_l1In.f d (a, lo, hi) = some (inB a lo hi) := by
 obtain ⟨d, rfl, hd⟩ := dep hd
 rw [spec_l1In.t_eq]
 exact in_def a lo hi
theorem laws_eqByteS.self {d : Nat} (hd : 1 ≤ d) {l : List Int} (hl : l.length ≤ 140737488351232) : laws_eqByteS.f d (l, l) = some true := by
 obtain ⟨d, rfl, _⟩ := dep hd
 rw [laws_eqByteS.t_eq]
 refine Tells.eq ?_
 dsimp only [laws_eqByteS.m]
 refine tf (by simp) ?_
 refine loopE (laws_eqByteS.S0 d) l.length (fun i => (l, l, i)) (fun _ r => r = true) (by omega) (fun L => ?_) fun L i hi ih => ?_
 ·dsimp only [laws_eqByteS.S0, laws_eqByteS.s0]
  exact tn (by omega) (tl rfl)
 ·dsimp only [laws_eqByteS.S0, laws_eqByteS.s0]
  refine tp (by omega) (ti hi (ti hi (tf (by simp) ?_)))
  rwa [wrap_succ (by omega)]
def Mb (n : Int) (x : Int) : Prop := x = IntKind.wrap IntKind.u8 n
abbrev MkB := MkL (fun _ : Int => 1) Mb
theorem sum_one {α : Type} (l : List α) : wSum (fun _ => 1) l = l.length := by induction l with
 | nil => rfl
 | cons a l ih => rw [wSum_cons, ih, List.length_cons]; omega
theorem laws_markByteS.sp {d : Nat} (hd : 1 ≤ d) {l : List Int} {n : Int} (h0 : 0 ≤ n) (hl : l.length ≤ 140737488351232) (hn : n + l.length ≤ 4611686018427387904) :
  Tells (laws_markByteS.f d (l, n)) (fun r => r.1 = n + l.length ∧ MkB n r.2 ∧ r.2.length = l.length) := by
 obtain ⟨d, rfl, _⟩ := dep hd
 rw [laws_markByteS.t_eq]
 dsimp only [laws_markByteS.m]
 refine (loopMark (w := fun _ => 1) (M := Mb) (laws_markByteS.S0 d) h0 (by rw [sum_one]; exact hn) hl (fun L n st h => ?_) fun L n st i Q hi h hwx h0 hn ih => ?_).mono fun r hr => ?_
 ·dsimp only [laws_markByteS.S0, laws_markByteS.s0]
  exact tn (by omega) (tl rfl)
 ·dsimp only [laws_markByteS.S0, laws_markByteS.s0]
  refine tp (by omega) (ti hi ?_)
  rw [wrap_succ (by omega), wrapn (by omega) (by omega)]
  exact ih _ rfl rfl
 ·rw [sum_one] at hr
  exact ⟨hr.1, hr.2.1, by simpa using congrArg List.length hr.2.2⟩
theorem laws_heldByteS.sp {d : Nat} (hd : 1 ≤ d) {l : List Int} {n : Int} (h0 : 0 ≤ n) (hl : l.length ≤ 140737488351232) (hn : n + l.length ≤ 4611686018427387904) (hm : MkB n l) : laws_heldByteS.f d (l, n) = some (n + l.length) := by
 obtain ⟨d, rfl, _⟩ := dep hd
 rw [laws_heldByteS.t_eq]
 dsimp only [laws_heldByteS.m]
 refine Tells.eq ?_
 have := loopHeld (w := fun _ => 1) (M := Mb) (laws_heldByteS.S0 d) h0 (by rw [sum_one]; exact hn) hl hm (fun L n => ?_) fun L n i Q hi h0 hn hM ih => ?_
 ·rw [sum_one] at this; exact this
 ·dsimp only [laws_heldByteS.S0, laws_heldByteS.s0]
  exact tn (by omega) (tl rfl)
 ·dsimp only [laws_heldByteS.S0, laws_heldByteS.s0]
  refine tp (by omega) (ti hi ?_)
  rw [getD_in hi, wrap_succ (by omega), wrapn (by omega) (by omega), hM]
  exact tf (by simp) ih
theorem map_len {α β : Type} {f : α → β} {a b : List α} (h : a.map f = b.map f) : a.length = b.length := by simpa using congrArg List.length h
theorem okRow_len {cs : SS} {l : List cs.T} (h : okV (.row cs) l) : l.length ≤ 140737488351232 := Nat.le_trans (Nat.le_mul_of_pos_right _ (SS.size_pos cs)) h.1
theorem laws_markByteS.held {d d2 : Nat} (hd : 1 ≤ d) (hd2 : 1 ≤ d2) {l : List Int} {n : Int} (h0 : 0 ≤ n) (hl : l.length ≤ 140737488351232) (hn : n + l.length ≤ 4611686018427387904) :
  Tells (laws_markByteS.f d (l, n)) (fun r => 0 ≤ r.1 ∧ laws_heldByteS.f d2 (r.2, n) = some r.1) :=
 (laws_markByteS.sp hd h0 hl hn).mono fun r hr => ⟨by omega, by rw [laws_heldByteS.sp hd2 h0 (by rw [hr.2.2]; exact hl) (by rw [hr.2.2]; exact hn) hr.2.1, hr.1, hr.2.2]⟩
abbrev Col := ByteArray × Int × Bool
abbrev By := Int × Bool
abbrev Ix := ByteArray × Bool × List (Int × Bool)
abbrev Df := ByteArray × List (ByteArray × Int × Bool) × List (Int × Bool) × List (ByteArray × Bool × List (Int × Bool))
theorem loopL {A R β : Type} (s : (A → Option R) → A → Option R) (l : List β) (mk : Int → A) (F : Nat → List β → R) (hl : l.length ≤ 4611686018427387904)
  (base : ∀ L, Tells (s L (mk (l.length : Int))) (· = F l.length []))
  (step : ∀ L i (hi : i < l.length), Tells (L (mk ((i + 1 : Nat) : Int))) (· = F (i + 1) (l.drop (i + 1))) → Tells (s L (mk (i : Int))) (· = F i (l[i] :: l.drop (i + 1)))) :
  Tells (iter s rnds (mk (0 : Int))) (· = F 0 l) := by
 have := loopE s l.length mk (fun i r => r = F i (l.drop i)) hl (fun L => by
  rw [List.drop_length]; exact base L) fun L i hi ih => by
  rw [drop_at hi]; exact step L i hi ih
 simpa using this
theorem loopStop {A R β : Type} (s : (A → Option R) → A → Option R) (l : List β) (mk : Int → A) (p : β → Bool) (v R0 : R) (hl : l.length ≤ 4611686018427387904)
  (base : ∀ L, Tells (s L (mk (l.length : Int))) (· = R0))
  (step : ∀ L i (hi : i < l.length) e, Tells (L (mk ((i + 1 : Nat) : Int))) (· = e) → Tells (s L (mk (i : Int))) (· = bif p l[i] then v else e)) :
  Tells (iter s rnds (mk (0 : Int))) (· = bif l.any p then v else R0) := by
 refine loopL s l mk (fun _ r => bif r.any p then v else R0) hl (fun L => base L) fun L i hi ih => ?_
 refine (step L i hi _ ih).mono fun r hr => ?_
 rw [hr, List.any_cons]
 cases p l[i] <;> rfl
def wordsL : List ByteArray := [(⟨#[116, 97, 98, 108, 101]⟩ : ByteArray), (⟨#[112, 114, 105, 109, 97, 114, 121]⟩ : ByteArray), (⟨#[117, 110, 105, 113, 117, 101]⟩ : ByteArray), (⟨#[105, 110, 100, 101, 120]⟩ : ByteArray), (⟨#[110, 117, 108, 108]⟩ : ByteArray), (⟨#[100, 101, 115, 99]⟩ : ByteArray), (⟨#[105, 110, 116]⟩ : ByteArray), (⟨#[110, 117, 109]⟩ : ByteArray), (⟨#[116, 101, 120, 116]⟩ : ByteArray), (⟨#[98, 111, 111, 108]⟩ : ByteArray)]
theorem toList_inj {a b : ByteArray} (h : a.toList = b.toList) : a = b := by
 rw [ByteArray.toList_eq, ByteArray.toList_eq] at h
 exact ByteArray.ext (Array.toList_inj.1 h)
def isT (a b : ByteArray) : Bool := a.toList == b.toList
theorem isT_iff {a b : ByteArray} : isT a b = true ↔ a = b := by
 unfold isT
 rw [beq_iff_eq]
 exact ⟨toList_inj, fun h => by rw [h]⟩
def freeM (s : ByteArray) : Bool := nameM s.size 0 (bytesOf s) && !(wordsL.any fun w => isT w s)
def namesM (d : Df) : Bool := d.2.1.all (fun c => freeM c.1) && (d.2.2.2.all (fun x => freeM x.1) && freeM d.1)
def typesM (cs : List Col) : Bool := cs.all (fun c => inB c.2.1 1 4) && inB cs.length 1 6
def onceR : List ByteArray → List ByteArray → Bool
 | _, [] => true
 | p, x :: r => !(p.any fun y => isT y x) && onceR (p ++ [x]) r
def onceM (d : Df) : Bool := onceR [] (d.2.1.map (·.1)) && onceR [] (d.2.2.2.map (·.1))
def partsM (n : Int) (ps : List By) : Bool := match ps with
 | [a] => inB a.1 0 (n - 1)
 | [a, b] => inB a.1 0 (n - 1) && (inB b.1 0 (n - 1) && !decide (a.1 = b.1))
 | _ => false
theorem partsM_in {n : Int} {ps : List By} (h : partsM n ps = true) : ∀ p ∈ ps, 0 ≤ p.1 ∧ p.1 < n := by
 unfold partsM at h
 match ps, h with
 | [a], h => intro p hp; rw [List.mem_singleton] at hp; rw [hp]; have := inB_iff.1 h; omega
 | [a, b], h =>
  simp only [Bool.and_eq_true] at h
  have h1 := inB_iff.1 h.1
  have h2 := inB_iff.1 h.2.1
  intro p hp
  simp only [List.mem_cons, List.not_mem_nil, or_false] at hp
  rcases hp with e | e <;> rw [e] <;> omega
theorem partsM_len {n : Int} {ps : List By} (h : partsM n ps = true) : 1 ≤ ps.length ∧ ps.length ≤ 2 := by
 unfold partsM at h
 match ps, h with
 | [a], _ => exact ⟨by simp, by simp⟩
 | [a, b], _ => exact ⟨by simp, by simp⟩
theorem partsM_not {n : Int} {ps : List By} (h : ¬ inB ps.length 1 2 = true) : partsM n ps = false := by
 cases c : partsM n ps with
 | false => rfl
 | true => have := partsM_len c; exact absurd (inB_iff.2 ⟨by omega, by omega⟩) h
def allPartsM (d : Df) : Bool := d.2.2.2.all (fun x => partsM d.2.1.length x.2.2) && partsM d.2.1.length d.2.2.1
def colAt (cs : List Col) (i : Int) : Col := List.getD cs (Int.toNat i) (ByteArray.empty, (0 : Int), false)
def nullAt (cs : List Col) (p : By) : Bool := (colAt cs p.1).2.2
def checkM (d : Df) : Int :=
 bif namesM d then (bif typesM d.2.1 then (bif onceM d then (bif decide ((d.2.2.2.length : Int) > 2) then 6 else bif allPartsM d then (bif d.2.2.1.any (nullAt d.2.1) then 4 else 0) else 5) else 3) else 2) else 1
def goodM (d : Df) : Prop := namesM d = true ∧ typesM d.2.1 = true ∧ onceM d = true ∧ d.2.2.2.length ≤ 2 ∧ allPartsM d = true ∧ d.2.2.1.any (nullAt d.2.1) = false
theorem checkM_iff {d : Df} : checkM d = 0 ↔ goodM d := by
 unfold checkM goodM
 cases namesM d <;> cases typesM d.2.1 <;> cases onceM d <;> cases allPartsM d <;> cases d.2.2.1.any (nullAt d.2.1) <;> by_cases h : (d.2.2.2.length : Int) > 2 <;> simp [h] <;> omega
theorem at_mem {β : Type} {l : List β} {i : Int} {z : β} (h0 : 0 ≤ i) (h1 : i < l.length) : List.getD l (Int.toNat i) z ∈ l := by
 have e : i = ((i.toNat : Nat) : Int) := by omega
 rw [e, getD_in (show i.toNat < l.length by omega)]
 exact List.getElem_mem _
def firstR (l : List Df) : Nat → List Df → Int
 | _, [] => -1
 | i, d :: r => bif decide (checkM d = 0) && decide (i ≤ 2) then (bif (l.take i).any (fun e => isT e.1 d.1) then (i : Int) else firstR l (i + 1) r) else (i : Int)
def firstM (l : List Df) : Int := firstR l 0 l
theorem allParts_of {d : Df} (h : allPartsM d = true) : partsM d.2.1.length d.2.2.1 = true ∧ ∀ x ∈ d.2.2.2, partsM d.2.1.length x.2.2 = true := by
 unfold allPartsM at h
 rw [Bool.and_eq_true] at h
 exact ⟨h.2, fun x hx => List.all_eq_true.1 h.1 x hx⟩
theorem goodM.parts {d : Df} (h : goodM d) : partsM d.2.1.length d.2.2.1 = true ∧ ∀ x ∈ d.2.2.2, partsM d.2.1.length x.2.2 = true := allParts_of h.2.2.2.2.1
theorem goodM.types {d : Df} (h : goodM d) : (∀ c ∈ d.2.1, inB c.2.1 1 4 = true) ∧ 1 ≤ d.2.1.length ∧ d.2.1.length ≤ 6 := by
 have := h.2.1
 unfold typesM at this
 rw [Bool.and_eq_true] at this
 have q := inB_iff.1 this.2
 exact ⟨fun c hc => List.all_eq_true.1 this.1 c hc, by omega, by omega⟩
def tyL : List ByteArray := [(⟨#[]⟩ : ByteArray), (⟨#[105, 110, 116]⟩ : ByteArray), (⟨#[110, 117, 109]⟩ : ByteArray), (⟨#[116, 101, 120, 116]⟩ : ByteArray), (⟨#[98, 111, 111, 108]⟩ : ByteArray)]
def tyAt (t : Int) : ByteArray := List.getD tyL (Int.toNat t) ByteArray.empty
def partOne (cs : List Col) (p : By) : ByteArray := bif p.2 then (colAt cs p.1).1 ++ (⟨#[32, 100, 101, 115, 99]⟩ : ByteArray) else (colAt cs p.1).1
def partTx (cs : List Col) (ps : List By) : ByteArray := match ps with
 | [p] => partOne cs p ++ (⟨#[59, 32]⟩ : ByteArray)
 | [p, q] => ((partOne cs p ++ (⟨#[44, 32]⟩ : ByteArray)) ++ partOne cs q) ++ (⟨#[59, 32]⟩ : ByteArray)
 | _ => (⟨#[]⟩ : ByteArray)
def namesS (cs : List Col) : Prop := ∀ c ∈ cs, c.1.size ≤ 8
def colS (s : ByteArray) (c : Col) : ByteArray := (bif c.2.2 then (s ++ ((c.1 ++ (⟨#[32]⟩ : ByteArray)) ++ tyAt c.2.1)) ++ (⟨#[32, 110, 117, 108, 108]⟩ : ByteArray) else s ++ ((c.1 ++ (⟨#[32]⟩ : ByteArray)) ++ tyAt c.2.1)) ++ (⟨#[59, 32]⟩ : ByteArray)
def idxS (cs : List Col) (s : ByteArray) (x : Ix) : ByteArray := s ++ ((((bif x.2.1 then (⟨#[117, 110, 105, 113, 117, 101, 32]⟩ : ByteArray) else (⟨#[105, 110, 100, 101, 120, 32]⟩ : ByteArray)) ++ x.1) ++ (⟨#[32]⟩ : ByteArray)) ++ partTx cs x.2.2)
def headTx (d : Df) : ByteArray := ((⟨#[116, 97, 98, 108, 101, 32]⟩ : ByteArray) ++ d.1) ++ (⟨#[32, 123, 32]⟩ : ByteArray)
def restTx (d : Df) (s : ByteArray) : ByteArray :=
 d.2.2.2.foldl (idxS d.2.1) (s ++ ((⟨#[112, 114, 105, 109, 97, 114, 121, 32]⟩ : ByteArray) ++ partTx d.2.1 d.2.2.1)) ++ (⟨#[125]⟩ : ByteArray)
def defTx (d : Df) : ByteArray := bif decide (checkM d = 0) then restTx d (d.2.1.foldl colS (headTx d)) else (⟨#[]⟩ : ByteArray)
theorem nameM_end (n : Int) : ∀ (l : List Int) (i : Nat), nameM n i l = true → inB n 1 8 = true
 | [], _, h => h
 | x :: r, i, h => by
  rw [nameM] at h
  split at h
  ·exact nameM_end n r (i + 1) h
  ·split at h
   ·cases h
   ·split at h
    ·exact nameM_end n r (i + 1) h
    ·cases h
theorem freeM_size {s : ByteArray} (h : freeM s = true) : 1 ≤ s.size ∧ s.size ≤ 8 := by
 unfold freeM at h
 rw [Bool.and_eq_true] at h
 have := inB_iff.1 (nameM_end _ _ _ h.1)
 omega
theorem goodM.names {d : Df} (h : goodM d) : freeM d.1 = true ∧ (∀ c ∈ d.2.1, freeM c.1 = true) ∧ ∀ x ∈ d.2.2.2, freeM x.1 = true := by
 have := h.1
 unfold namesM at this
 rw [Bool.and_eq_true, Bool.and_eq_true] at this
 exact ⟨this.2.2, fun c hc => List.all_eq_true.1 this.1 c hc, fun x hx => List.all_eq_true.1 this.2.1 x hx⟩
def defsS (s : ByteArray) (d : Df) : ByteArray := s ++ (defTx d ++ (⟨#[10]⟩ : ByteArray))
def defsTx (l : List Df) : ByteArray := l.foldl defsS (⟨#[]⟩ : ByteArray)
theorem laws_szByS.sp {d : Nat} (hd : 1 ≤ d) {l : List By} {left : Int} (h0 : 0 ≤ left) (h1 : left ≤ 1048576) (hl : l.length ≤ 140737488351232) :
  Tells (laws_szByS.f d (l, left)) fun r => r ≤ left ∧ (0 ≤ r → (l.length : Int) ≤ left - r) := by
 obtain ⟨d, rfl, _⟩ := dep hd
 rw [laws_szByS.t_eq]
 dsimp only [laws_szByS.m]
 rw [wrap_id (by omega) (by omega)]
 exact tif (fun h => tl ⟨by omega, by omega⟩) fun h => tl ⟨by omega, by omega⟩
theorem laws_szColS.sp {d : Nat} (hd : 2 ≤ d) {l : List Col} {left : Int} (h0 : 0 ≤ left) (h1 : left ≤ 1048576) (hl : l.length ≤ 140737488351232) (hx : ∀ x ∈ l, x.1.size ≤ 140737488351232) :
  Tells (laws_szColS.f d (l, left)) fun r => r ≤ left ∧ (0 ≤ r → (l.length : Int) + wSum (fun x => x.1.size) l ≤ left - r) := by
 obtain ⟨d, rfl, _⟩ := dep hd
 rw [laws_szColS.t_eq]
 dsimp only [laws_szColS.m]
 rw [wrap_id (by omega) (by omega)]
 refine tif (fun h => tl ⟨by omega, by omega⟩) fun h => ?_
 refine (loopSz (w := fun x : Col => x.1.size) (laws_szColS.S0 d) (by omega) hl (fun L st => ?_) fun L st i Q hi h0 h1 hq ih => ?_).mono fun r hr => ⟨by omega, fun h => by have := hr.2 h; omega⟩
 ·dsimp only [laws_szColS.S0, laws_szColS.s0]
  exact tn (by omega) (tl rfl)
 ·dsimp only [laws_szColS.S0, laws_szColS.s0]
  refine tp (by omega) (ti hi ?_)
  rw [getD_in hi, wrap_succ (by omega)]
  obtain ⟨d, rfl, _⟩ := dep (show 0 + 1 ≤ d by omega)
  rw [laws_szCol.t_eq]
  dsimp only [laws_szCol.m]
  have := hx _ (List.getElem_mem hi)
  rw [wrap_id (by omega) (by omega)]
  refine tb (P := fun a => a ≤ st ∧ (0 ≤ a → (l[i].1.size : Int) ≤ st - a)) (tif (fun h => tl ⟨by omega, by omega⟩) fun h => tl ⟨by omega, by omega⟩) fun a ha => tif (fun _ => tl hq) fun h => ih a (by omega) (ha.2 (by omega))
theorem laws_szIndexS.sp {d : Nat} (hd : 3 ≤ d) {l : List Ix} {left : Int} (h0 : 0 ≤ left) (h1 : left ≤ 1048576) (hl : l.length ≤ 140737488351232) (hx : ∀ x ∈ l, x.1.size ≤ 140737488351232 ∧ x.2.2.length ≤ 140737488351232) :
  Tells (laws_szIndexS.f d (l, left)) fun r => r ≤ left ∧ (0 ≤ r → (l.length : Int) + wSum (fun x => x.1.size + x.2.2.length) l ≤ left - r) := by
 obtain ⟨d, rfl, _⟩ := dep hd
 rw [laws_szIndexS.t_eq]
 dsimp only [laws_szIndexS.m]
 rw [wrap_id (by omega) (by omega)]
 refine tif (fun h => tl ⟨by omega, by omega⟩) fun h => ?_
 refine (loopSz (w := fun x : Ix => x.1.size + x.2.2.length) (laws_szIndexS.S0 d) (by omega) hl (fun L st => ?_) fun L st i Q hi h0 h1 hq ih => ?_).mono fun r hr => ⟨by omega, fun h => by have := hr.2 h; omega⟩
 ·dsimp only [laws_szIndexS.S0, laws_szIndexS.s0]
  exact tn (by omega) (tl rfl)
 ·dsimp only [laws_szIndexS.S0, laws_szIndexS.s0]
  refine tp (by omega) (ti hi ?_)
  rw [getD_in hi, wrap_succ (by omega)]
  obtain ⟨d, rfl, _⟩ := dep (show 1 + 1 ≤ d by omega)
  rw [laws_szIndex.t_eq]
  dsimp only [laws_szIndex.m]
  have hxx := hx _ (List.getElem_mem hi)
  rw [wrap_id (by omega) (by omega)]
  refine tb (P := fun a => a ≤ st ∧ (0 ≤ a → ((l[i].1.size + l[i].2.2.length : Nat) : Int) ≤ st - a)) (tif (fun h => tl ⟨by omega, by omega⟩) fun h => ?_) fun a ha => tif (fun _ => tl hq) fun h => ih a (by omega) (ha.2 (by omega))
  exact tb (laws_szByS.sp (by omega) (by omega) (by omega) hxx.2) fun a ha => tif (fun _ => tl ⟨by omega, by omega⟩) fun h => tl ⟨by omega, fun h2 => by have := ha.2 h2; omega⟩
def dfFit (k : Nat) (x : Df) : Prop := x.1.size ≤ k ∧ (x.2.1.length ≤ k ∧ ∀ y ∈ x.2.1, y.1.size ≤ k) ∧ x.2.2.1.length ≤ k ∧ (x.2.2.2.length ≤ k ∧ ∀ y ∈ x.2.2.2, y.1.size ≤ k ∧ y.2.2.length ≤ k)
def dfW (x : Df) : Nat := x.1.size + (x.2.1.length + wSum (fun y : Col => y.1.size) x.2.1) + x.2.2.1.length + (x.2.2.2.length + wSum (fun y : Ix => y.1.size + y.2.2.length) x.2.2.2)
theorem dfFit.mono {k m : Nat} {x : Df} (h : dfFit k x) (hm : k ≤ m) : dfFit m x :=
 ⟨by have := h.1; omega, ⟨by have := h.2.1.1; omega, fun y hy => by have := h.2.1.2 y hy; omega⟩, by have := h.2.2.1; omega, by have := h.2.2.2.1; omega, fun y hy => by have := h.2.2.2.2 y hy; omega⟩
theorem laws_szDef.sp {d : Nat} (hd : 4 ≤ d) {x : Df} {left : Int} (h0 : 0 ≤ left) (h1 : left ≤ 1048576) (hf : dfFit 140737488351232 x) : Tells (laws_szDef.f d (x.1, x.2.1, x.2.2.1, x.2.2.2, left)) fun r => r ≤ left ∧ (0 ≤ r → dfFit 1048576 x ∧ (dfW x : Int) ≤ left - r) := by
 obtain ⟨d, rfl, _⟩ := dep hd
 rw [laws_szDef.t_eq]
 dsimp only [laws_szDef.m]
 have s0 := hf.1
 rw [wrap_id (by omega) (by omega)]
 refine tif (fun _ => tl ⟨by omega, fun h => by omega⟩) fun c => tb (laws_szColS.sp (by omega) (by omega) (by omega) hf.2.1.1 hf.2.1.2) fun a ha => tif (fun _ => tl ⟨by omega, fun h => by omega⟩) fun c1 => tb (laws_szByS.sp (by omega) (by omega) (by omega) hf.2.2.1) fun b hb => tif (fun _ => tl ⟨by omega, fun h => by omega⟩) fun c2 =>
  tb (laws_szIndexS.sp (by omega) (by omega) (by omega) hf.2.2.2.1 hf.2.2.2.2) fun e he => tif (fun _ => tl ⟨by omega, fun h => by omega⟩) fun c3 => tl ⟨by omega, fun _ => ?_⟩
 have h1 := ha.2 (by omega)
 have h2 := hb.2 (by omega)
 have h3 := he.2 (by omega)
 refine ⟨⟨by omega, ⟨by omega, fun y hy => ?_⟩, by omega, by omega, fun y hy => ?_⟩, by unfold dfW; omega⟩
 ·have h : y.1.size ≤ wSum (fun y : Col => y.1.size) x.2.1 := mem_wSum (w := fun y : Col => y.1.size) hy
  omega
 ·have h : y.1.size + y.2.2.length ≤ wSum (fun y : Ix => y.1.size + y.2.2.length) x.2.2.2 := mem_wSum (w := fun y : Ix => y.1.size + y.2.2.length) hy
  omega
theorem laws_toColS.sp {d : Nat} (hd : 2 ≤ d) {l : List Col} (hl : l.length ≤ 1048576) : laws_toColS.f d l = some l := by
 obtain ⟨d, rfl, _⟩ := dep hd
 rw [laws_toColS.t_eq]
 dsimp only [laws_toColS.m]
 refine Tells.eq (tt (by simp; omega) ?_)
 have := loopFill (laws_toColS.S0 d) l id (List.replicate (Int.toNat (l.length : Int)) (ByteArray.empty, (0 : Int), false)) (by simp) (by omega) (fun L st h => ?_) fun L st i Q hi h ih => ?_
 ·simpa using this
 ·dsimp only [laws_toColS.S0, laws_toColS.s0]
  exact tn (by omega) (tl rfl)
 ·dsimp only [laws_toColS.S0, laws_toColS.s0]
  refine tp (by omega) (ti hi ?_)
  rw [getD_in hi, wrap_succ (by omega)]
  obtain ⟨d, rfl, _⟩ := dep (show 0 + 1 ≤ d by omega)
  rw [laws_toCol.t_eq]
  refine tc rfl (ti (by omega) ?_)
  simpa [show i < st.length by omega] using ih
theorem laws_toByS.sp {d : Nat} (hd : 2 ≤ d) {l : List By} (hl : l.length ≤ 1048576) : laws_toByS.f d l = some l := by
 obtain ⟨d, rfl, _⟩ := dep hd
 rw [laws_toByS.t_eq]
 dsimp only [laws_toByS.m]
 refine Tells.eq (tt (by simp; omega) ?_)
 have := loopFill (laws_toByS.S0 d) l id (List.replicate (Int.toNat (l.length : Int)) ((0 : Int), false)) (by simp) (by omega) (fun L st h => ?_) fun L st i Q hi h ih => ?_
 ·simpa using this
 ·dsimp only [laws_toByS.S0, laws_toByS.s0]
  exact tn (by omega) (tl rfl)
 ·dsimp only [laws_toByS.S0, laws_toByS.s0]
  refine tp (by omega) (ti hi ?_)
  rw [getD_in hi, wrap_succ (by omega)]
  obtain ⟨d, rfl, _⟩ := dep (show 0 + 1 ≤ d by omega)
  rw [laws_toBy.t_eq]
  refine tc rfl (ti (by omega) ?_)
  simpa [show i < st.length by omega] using ih
theorem laws_toIndexS.sp {d : Nat} (hd : 4 ≤ d) {l : List Ix} (hl : l.length ≤ 1048576) (hx : ∀ x ∈ l, x.2.2.length ≤ 1048576) : laws_toIndexS.f d l = some l := by
 obtain ⟨d, rfl, _⟩ := dep hd
 rw [laws_toIndexS.t_eq]
 dsimp only [laws_toIndexS.m]
 refine Tells.eq (tt (by simp; omega) ?_)
 have := loopFill (laws_toIndexS.S0 d) l id (List.replicate (Int.toNat (l.length : Int)) (ByteArray.empty, false, ([] : List (Int × Bool)))) (by simp) (by omega) (fun L st h => ?_) fun L st i Q hi h ih => ?_
 ·simpa using this
 ·dsimp only [laws_toIndexS.S0, laws_toIndexS.s0]
  exact tn (by omega) (tl rfl)
 ·dsimp only [laws_toIndexS.S0, laws_toIndexS.s0]
  refine tp (by omega) (ti hi ?_)
  rw [getD_in hi, wrap_succ (by omega)]
  obtain ⟨d, rfl, _⟩ := dep (show 2 + 1 ≤ d by omega)
  have e : laws_toIndex.f (d + 1) (l[i].1, l[i].2.1, l[i].2.2) = some l[i] := by
   rw [laws_toIndex.t_eq]
   dsimp only [laws_toIndex.m]
   rw [laws_toByS.sp (by omega) (hx _ (List.getElem_mem hi))]; rfl
  refine tc e (ti (by omega) ?_)
  simpa [show i < st.length by omega] using ih
theorem laws_toDef.sp {d : Nat} (hd : 5 ≤ d) {x : Df} (h : dfFit 1048576 x) : laws_toDef.f d (x.1, x.2.1, x.2.2.1, x.2.2.2) = some x := by
 obtain ⟨d, rfl, _⟩ := dep hd
 rw [laws_toDef.t_eq]
 dsimp only [laws_toDef.m]
 exact Tells.eq (tc (laws_toColS.sp (by omega) h.2.1.1) (tc (laws_toByS.sp (by omega) h.2.2.1) (tc (laws_toIndexS.sp (by omega) h.2.2.2.1 fun y hy => (h.2.2.2.2 y hy).2) (tl rfl))))
theorem laws_eqByS.self {d : Nat} (hd : 2 ≤ d) {l : List By} (hl : l.length ≤ 140737488351232) : laws_eqByS.f d (l, l) = some true := by
 obtain ⟨d, rfl, _⟩ := dep hd
 rw [laws_eqByS.t_eq]
 refine Tells.eq ?_
 dsimp only [laws_eqByS.m]
 refine tf (by simp) ?_
 refine loopE (laws_eqByS.S0 d) l.length (fun i => (l, l, i)) (fun _ r => r = true) (by omega) (fun L => ?_) fun L i hi ih => ?_
 ·dsimp only [laws_eqByS.S0, laws_eqByS.s0]
  exact tn (by omega) (tl rfl)
 ·dsimp only [laws_eqByS.S0, laws_eqByS.s0]
  refine tp (by omega) (ti hi (ti hi ?_))
  rw [wrap_succ (by omega)]
  obtain ⟨d, rfl, _⟩ := dep (show 0 + 1 ≤ d by omega)
  rw [laws_eqBy.t_eq]
  exact tc (a := true) (by simp [laws_eqBy.m]) (tf rfl ih)
theorem laws_eqColS.self {d : Nat} (hd : 2 ≤ d) {l : List Col} (hl : l.length ≤ 140737488351232) : laws_eqColS.f d (l, l) = some true := by
 obtain ⟨d, rfl, _⟩ := dep hd
 rw [laws_eqColS.t_eq]
 refine Tells.eq ?_
 dsimp only [laws_eqColS.m]
 refine tf (by simp) ?_
 refine loopE (laws_eqColS.S0 d) l.length (fun i => (l, l, i)) (fun _ r => r = true) (by omega) (fun L => ?_) fun L i hi ih => ?_
 ·dsimp only [laws_eqColS.S0, laws_eqColS.s0]
  exact tn (by omega) (tl rfl)
 ·dsimp only [laws_eqColS.S0, laws_eqColS.s0]
  refine tp (by omega) (ti hi (ti hi ?_))
  rw [wrap_succ (by omega)]
  obtain ⟨d, rfl, _⟩ := dep (show 0 + 1 ≤ d by omega)
  rw [laws_eqCol.t_eq]
  exact tc (a := true) (by simp [laws_eqCol.m]) (tf rfl ih)
theorem laws_eqIndexS.self {d : Nat} (hd : 4 ≤ d) {l : List Ix} (hl : l.length ≤ 140737488351232) (hx : ∀ x ∈ l, x.2.2.length ≤ 140737488351232) : laws_eqIndexS.f d (l, l) = some true := by
 obtain ⟨d, rfl, _⟩ := dep hd
 rw [laws_eqIndexS.t_eq]
 refine Tells.eq ?_
 dsimp only [laws_eqIndexS.m]
 refine tf (by simp) ?_
 refine loopE (laws_eqIndexS.S0 d) l.length (fun i => (l, l, i)) (fun _ r => r = true) (by omega) (fun L => ?_) fun L i hi ih => ?_
 ·dsimp only [laws_eqIndexS.S0, laws_eqIndexS.s0]
  exact tn (by omega) (tl rfl)
 ·dsimp only [laws_eqIndexS.S0, laws_eqIndexS.s0]
  refine tp (by omega) (ti hi (ti hi ?_))
  rw [getD_in hi, wrap_succ (by omega)]
  obtain ⟨d, rfl, _⟩ := dep (show 2 + 1 ≤ d by omega)
  rw [laws_eqIndex.t_eq]
  dsimp only [laws_eqIndex.m]
  refine tb (P := fun a => a = true) (tf (by simp) (tf (by simp) (tc (laws_eqByS.self (by omega) (hx _ (List.getElem_mem hi))) (tf rfl (tl rfl))))) fun a ha => ?_
  subst ha
  exact tf rfl ih
theorem laws_eqDef.self {d : Nat} (hd : 5 ≤ d) {x : Df} (h : dfFit 140737488351232 x) : laws_eqDef.f d (x.1, x.2.1, x.2.2.1, x.2.2.2, x.1, x.2.1, x.2.2.1, x.2.2.2) = some true := by
 obtain ⟨d, rfl, _⟩ := dep hd
 rw [laws_eqDef.t_eq]
 dsimp only [laws_eqDef.m]
 exact Tells.eq (tf (by simp) (tc (laws_eqColS.self (by omega) h.2.1.1) (tf rfl (tc (laws_eqByS.self (by omega) h.2.2.1) (tf rfl (tc (laws_eqIndexS.self (by omega) h.2.2.2.1 fun y hy => (h.2.2.2.2 y hy).2) (tf rfl (tl rfl))))))))
theorem get_byte {s : ByteArray} {i : Nat} (h : i < (bytesOf s).length) : ((ByteArray.get! s (Int.toNat (i : Int))).toNat : Int) = (bytesOf s)[i] := by
 have h2 : i < s.data.size := by simpa [strNums] using h
 rw [Int.toNat_natCast]
 simp [strNums, ByteArray.get!, getElem!_pos s.data i h2]
theorem byte_in {s : ByteArray} {i : Nat} (h : i < (bytesOf s).length) : 0 ≤ (bytesOf s)[i] ∧ (bytesOf s)[i] ≤ 255 := bytesOf_bytes s _ (List.getElem_mem h)
theorem impl_isLetter.sp {d : Nat} (hd : 1 ≤ d) (a : Int) : impl_isLetter.f d a = some (inB a 97 122) := by
 obtain ⟨d, rfl, _⟩ := dep hd
 rw [impl_isLetter.t_eq]
 exact in_def a 97 122
theorem impl_isDigit.sp {d : Nat} (hd : 1 ≤ d) (a : Int) : impl_isDigit.f d a = some (inB a 48 57) := by
 obtain ⟨d, rfl, _⟩ := dep hd
 rw [impl_isDigit.t_eq]
 exact in_def a 48 57
theorem spec_l8Small.sp {d : Nat} (hd : 2 ≤ d) {a : Int} (h : 0 ≤ a ∧ a ≤ 255) : spec_l8Small.f d a = some (inB a 97 122) := by
 obtain ⟨d, rfl, _⟩ := dep hd
 rw [spec_l8Small.t_eq]
 dsimp only [spec_l8Small.m]
 rw [wrap_id (by omega) (by omega), spec_l1In.sp (by omega)]; rfl
theorem spec_l2Digit.sp {d : Nat} (hd : 2 ≤ d) {a : Int} (h : 0 ≤ a ∧ a ≤ 255) : spec_l2Digit.f d a = some (inB a 48 57) := by
 obtain ⟨d, rfl, _⟩ := dep hd
 rw [spec_l2Digit.t_eq]
 dsimp only [spec_l2Digit.m]
 rw [wrap_id (by omega) (by omega), spec_l1In.sp (by omega)]; rfl
theorem impl_nameOk.sp {d : Nat} (hd : 2 ≤ d) {s : ByteArray} (hs : s.size ≤ 140737488351232) : impl_nameOk.f d s = some (nameM s.size 0 (bytesOf s)) := by
 obtain ⟨d, rfl, _⟩ := dep hd
 rw [impl_nameOk.t_eq]
 dsimp only [impl_nameOk.m]
 have hl := bytesOf_length s
 refine Tells.eq (loopL (impl_nameOk.S0 d) (bytesOf s) (fun i => (s, i)) (fun i r => nameM s.size i r) (by omega) (fun L => ?_) fun L i hi ih => ?_)
 ·dsimp only [impl_nameOk.S0, impl_nameOk.s0]
  exact tn (by omega) (tc (impl_in.sp (by omega) _ _ _) (tl rfl))
 ·dsimp only [impl_nameOk.S0, impl_nameOk.s0]
  refine tp (by omega) (ti (by omega) ?_)
  rw [get_byte hi, wrap_succ (by omega)]
  refine tc (impl_isLetter.sp (by omega) _) ?_
  rw [nameM]
  by_cases c1 : inB (bytesOf s)[i] 97 122 = true
  ·rw [if_pos c1]; exact tf (by rw [c1]; rfl) ih
  ·rw [if_neg c1]
   refine tt (by simp [c1]) ?_
   by_cases c2 : i = 0
   ·rw [if_pos c2]; exact tt (by simp [c2]) (tl rfl)
   ·rw [if_neg c2]
    refine tf (by simp; omega) (ti (by omega) (tc (impl_isDigit.sp (by omega) _) ?_))
    by_cases c3 : inB (bytesOf s)[i] 48 57 = true
    ·rw [if_pos c3]; exact tf (by rw [c3]; rfl) ih
    ·rw [if_neg c3]; exact tt (by simp [c3]) (tl rfl)
theorem spec_l8Name.sp {d : Nat} (hd : 3 ≤ d) {s : ByteArray} (hs : s.size ≤ 140737488351232) : spec_l8Name.f d s = some (nameM s.size 0 (bytesOf s)) := by
 obtain ⟨d, rfl, _⟩ := dep hd
 rw [spec_l8Name.t_eq]
 dsimp only [spec_l8Name.m]
 have hl := bytesOf_length s
 refine Tells.eq (loopL (spec_l8Name.S0 d) (bytesOf s) (fun i => (s, i)) (fun i r => nameM s.size i r) (by omega) (fun L => ?_) fun L i hi ih => ?_)
 ·dsimp only [spec_l8Name.S0, spec_l8Name.s0]
  exact tn (by omega) (tc (spec_l1In.sp (by omega) _ _ _) (tl rfl))
 ·dsimp only [spec_l8Name.S0, spec_l8Name.s0]
  refine tp (by omega) (ti (by omega) ?_)
  have hb := byte_in hi
  rw [get_byte hi, wrap_succ (by omega)]
  refine tc (spec_l8Small.sp (by omega) hb) ?_
  rw [nameM]
  by_cases c1 : inB (bytesOf s)[i] 97 122 = true
  ·rw [if_pos c1]; exact tf (by rw [c1]; rfl) ih
  ·rw [if_neg c1]
   refine tt (by simp [c1]) ?_
   by_cases c2 : i = 0
   ·rw [if_pos c2]; exact tt (by simp [c2]) (tl rfl)
   ·rw [if_neg c2]
    refine tf (by simp; omega) (ti (by omega) (tc (spec_l2Digit.sp (by omega) hb) ?_))
    by_cases c3 : inB (bytesOf s)[i] 48 57 = true
    ·rw [if_pos c3]; exact tf (by rw [c3]; rfl) ih
    ·rw [if_neg c3]; exact tt (by simp [c3]) (tl rfl)
theorem spec_l9Has.sp {d : Nat} (hd : 1 ≤ d) {l : List ByteArray} (hl : l.length ≤ 140737488351232) (s : ByteArray) : spec_l9Has.f d (l, s) = some (l.any fun w => isT w s) := by
 obtain ⟨d, rfl, _⟩ := dep hd
 rw [spec_l9Has.t_eq]
 dsimp only [spec_l9Has.m]
 have := loopStop (spec_l9Has.S0 d) l (fun i => (l, s, i)) (fun w => isT w s) true false (by omega) (fun L => ?_) fun L i hi e ih => ?_
 ·refine Tells.eq (this.mono fun r hr => ?_)
  rw [hr]; cases (l.any fun w => isT w s) <;> rfl
 ·dsimp only [spec_l9Has.S0, spec_l9Has.s0]
  exact tn (by omega) (tl rfl)
 ·dsimp only [spec_l9Has.S0, spec_l9Has.s0]
  refine tp (by omega) (ti hi ?_)
  rw [getD_in hi, wrap_succ (by omega)]
  exact tbif (fun c => tl (by rw [show isT l[i] s = true from c]; rfl)) fun c => by rw [show isT l[i] s = false from c]; exact ih
theorem spec_l9Word.sp {d : Nat} (hd : 4 ≤ d) {s : ByteArray} (hs : s.size ≤ 140737488351232) : spec_l9Word.f d s = some (freeM s) := by
 obtain ⟨d, rfl, _⟩ := dep hd
 rw [spec_l9Word.t_eq]
 dsimp only [spec_l9Word.m]
 refine Tells.eq (tc (spec_l8Name.sp (by omega) hs) (tbif (fun c => tc (spec_l9Has.sp (l := wordsL) (by omega) (by decide) s) (tl ?_)) fun c => tl ?_))
 ·unfold freeM; rw [c]; rfl
 ·unfold freeM; rw [c]; rfl
theorem loopAnd {A β : Type} (s : (A → Option Bool) → A → Option Bool) (l : List β) (mk : Int → A) (p : β → Bool) (R0 : Bool) (hl : l.length ≤ 4611686018427387904)
  (base : ∀ L, Tells (s L (mk (l.length : Int))) (· = R0))
  (step : ∀ L i (hi : i < l.length) e, Tells (L (mk ((i + 1 : Nat) : Int))) (· = e) → Tells (s L (mk (i : Int))) (· = (p l[i] && e))) :
  Tells (iter s rnds (mk (0 : Int))) (· = (l.all p && R0)) := by
 refine loopL s l mk (fun _ r => r.all p && R0) hl base fun L i hi ih => ?_
 refine (step L i hi _ ih).mono fun r hr => ?_
 rw [hr, List.all_cons, Bool.and_assoc]
theorem spec_l9Names.sp {d : Nat} (hd : 5 ≤ d) {x : Df} (h : dfFit 140737488351232 x) : spec_l9Names.f d (x.1, x.2.1, x.2.2.1, x.2.2.2) = some (namesM x) := by
 obtain ⟨d, rfl, _⟩ := dep hd
 rw [spec_l9Names.t_eq]
 dsimp only [spec_l9Names.m]
 obtain ⟨h0, ⟨h1, h2⟩, h3, h4, h5⟩ := h
 refine Tells.eq (loopAnd (spec_l9Names.S0 d) x.2.1 (fun i => (i, x.1, x.2.1, x.2.2.1, x.2.2.2)) (fun c => freeM c.1) _ (by omega) (fun L => ?_) fun L i hi e ih => ?_)
 ·dsimp only [spec_l9Names.S0, spec_l9Names.s0]
  refine tn (by omega) ?_
  refine loopAnd (spec_l9Names.S2 d) x.2.2.2 (fun i => (i, x.1, x.2.1, x.2.2.1, x.2.2.2)) (fun c => freeM c.1) _ (by omega) (fun L => ?_) fun L i hi e ih => ?_
  ·dsimp only [spec_l9Names.S2, spec_l9Names.s2]
   exact tn (by omega) (tc (spec_l9Word.sp (by omega) h0) (tl rfl))
  ·dsimp only [spec_l9Names.S2, spec_l9Names.s2]
   refine tp (by omega) (ti hi ?_)
   rw [getD_in hi, wrap_succ (by omega)]
   refine tc (spec_l9Word.sp (by omega) (h5 _ (List.getElem_mem hi)).1) ?_
   cases freeM x.2.2.2[i].1
   ·exact tt rfl (tl rfl)
   ·exact tf rfl ih
 ·dsimp only [spec_l9Names.S0, spec_l9Names.s0]
  refine tp (by omega) (ti hi ?_)
  rw [getD_in hi, wrap_succ (by omega)]
  refine tc (spec_l9Word.sp (by omega) (h2 _ (List.getElem_mem hi))) ?_
  cases freeM x.2.1[i].1
  ·exact tt rfl (tl rfl)
  ·exact tf rfl ih
theorem spec_l9Types.sp {d : Nat} (hd : 2 ≤ d) {x : Df} (h : dfFit 140737488351232 x) : spec_l9Types.f d (x.1, x.2.1, x.2.2.1, x.2.2.2) = some (typesM x.2.1) := by
 obtain ⟨d, rfl, _⟩ := dep hd
 rw [spec_l9Types.t_eq]
 dsimp only [spec_l9Types.m]
 have h1 := h.2.1.1
 refine Tells.eq (loopAnd (spec_l9Types.S0 d) x.2.1 (fun i => (i, x.1, x.2.1, x.2.2.1, x.2.2.2)) (fun c => inB c.2.1 1 4) _ (by omega) (fun L => ?_) fun L i hi e ih => ?_)
 ·dsimp only [spec_l9Types.S0, spec_l9Types.s0]
  exact tn (by omega) (tc (spec_l1In.sp (by omega) _ _ _) (tl rfl))
 ·dsimp only [spec_l9Types.S0, spec_l9Types.s0]
  refine tp (by omega) (ti hi ?_)
  rw [getD_in hi, wrap_succ (by omega)]
  refine tc (spec_l1In.sp (by omega) _ _ _) ?_
  cases inB x.2.1[i].2.1 1 4
  ·exact tt rfl (tl rfl)
  ·exact tf rfl ih
def firstI (s : ByteArray) : Nat → List Col → Int
 | _, [] => -1
 | n, x :: r => bif isT x.1 s then (n : Int) else firstI s (n + 1) r
theorem spec_l9Col.sp {d : Nat} (hd : 1 ≤ d) {x : Df} (h : x.2.1.length ≤ 140737488351232) (s : ByteArray) : spec_l9Col.f d (x.1, x.2.1, x.2.2.1, x.2.2.2, s) = some (firstI s 0 x.2.1) := by
 obtain ⟨d, rfl, _⟩ := dep hd
 rw [spec_l9Col.t_eq]
 dsimp only [spec_l9Col.m]
 refine Tells.eq (loopL (spec_l9Col.S0 d) x.2.1 (fun i => (s, i, x.1, x.2.1, x.2.2.1, x.2.2.2)) (fun i r => firstI s i r) (by omega) (fun L => ?_) fun L i hi ih => ?_)
 ·dsimp only [spec_l9Col.S0, spec_l9Col.s0]
  exact tn (by omega) (tl rfl)
 ·dsimp only [spec_l9Col.S0, spec_l9Col.s0]
  refine tp (by omega) (ti hi ?_)
  rw [getD_in hi, wrap_succ (by omega), firstI]
  exact tbif (fun c => tl (by rw [show isT x.2.1[i].1 s = true from c]; rfl)) fun c => by rw [show isT x.2.1[i].1 s = false from c]; exact ih
theorem firstI_app (s : ByteArray) (x : Col) (r : List Col) (hx : isT x.1 s = true) : ∀ (p : List Col) (n : Nat), (p.any (fun y => isT y.1 s) = true → firstI s n (p ++ x :: r) < (n + p.length : Nat)) ∧ (p.any (fun y => isT y.1 s) = false → firstI s n (p ++ x :: r) = (n + p.length : Nat))
 | [], n => ⟨fun h => by simp at h, fun _ => by simp [firstI, hx]⟩
 | y :: p, n => by
  have ih := firstI_app s x r hx p (n + 1)
  rw [List.cons_append, firstI, List.any_cons, List.length_cons]
  cases c : isT y.1 s
  ·rw [Bool.false_or]
   exact ⟨fun h => by have := ih.1 h; simp only [cond_false]; omega, fun h => by have := ih.2 h; simp only [cond_false]; omega⟩
  ·exact ⟨fun _ => by simp only [cond_true]; omega, fun h => by simp at h⟩
theorem isT_self (a : ByteArray) : isT a a = true := isT_iff.2 rfl
theorem take_succ' {β : Type} {l : List β} {i : Nat} (hi : i < l.length) : l.take (i + 1) = l.take i ++ [l[i]] := by
 rw [List.take_add_one, List.getElem?_eq_getElem hi]; rfl
theorem loopAhead {A R β : Type} (s : (A → Option R) → A → Option R) (l : List β) (n : Nat) (hn : n ≤ l.length) (mk : Int → A) (p : β → Bool) (v R0 : R) (hl : l.length ≤ 4611686018427387904)
  (base : ∀ L, Tells (s L (mk (n : Int))) (· = R0))
  (step : ∀ L i (hi : i < n) e, Tells (L (mk ((i + 1 : Nat) : Int))) (· = e) → Tells (s L (mk (i : Int))) (· = bif p l[i] then v else e)) :
  Tells (iter s rnds (mk (0 : Int))) (· = bif (l.take n).any p then v else R0) := by
 have hlen : (l.take n).length = n := by rw [List.length_take]; omega
 refine loopStop s (l.take n) mk p v R0 (by omega) (fun L => by rw [hlen]; exact base L) fun L i hi e ih => ?_
 have hi' : i < n := by omega
 have := step L i hi' e ih
 rwa [show (l.take n)[i] = l[i] by simp]
theorem spec_l9Once.sp {d : Nat} (hd : 2 ≤ d) {x : Df} (h : dfFit 140737488351232 x) : spec_l9Once.f d (x.1, x.2.1, x.2.2.1, x.2.2.2) = some (onceM x) := by
 obtain ⟨d, rfl, _⟩ := dep hd
 rw [spec_l9Once.t_eq]
 dsimp only [spec_l9Once.m]
 have h1 := h.2.1.1
 have h4 := h.2.2.2.1
 have two : Tells (iter (spec_l9Once.S2 d) rnds ((0 : Int), x.1, x.2.1, x.2.2.1, x.2.2.2)) (· = onceR [] (x.2.2.2.map (·.1))) := by
  refine loopL (spec_l9Once.S2 d) x.2.2.2 (fun i => (i, x.1, x.2.1, x.2.2.1, x.2.2.2)) (fun i (r : List Ix) => onceR ((x.2.2.2.take i).map (·.1)) (r.map (·.1))) (by omega) (fun L => ?_) fun L i hi ih => ?_
  ·dsimp only [spec_l9Once.S2, spec_l9Once.s2]
   exact tn (by omega) (tl rfl)
  ·dsimp only [spec_l9Once.S2, spec_l9Once.s2]
   refine tp (by omega) ?_
   have := loopAhead (spec_l9Once.S4 d L) x.2.2.2 i (by omega) (fun j => ((i : Int), j, x.1, x.2.1, x.2.2.1, x.2.2.2)) (fun y => isT y.1 x.2.2.2[i].1) false (onceR ((x.2.2.2.take (i + 1)).map fun c => c.1) ((x.2.2.2.drop (i + 1)).map fun c => c.1)) (by omega) (fun L4 => ?_) fun L4 j hj e ih2 => ?_
   ·refine this.mono fun r hr => ?_
    rw [hr, List.map_cons, onceR, List.any_map, take_succ' hi, List.map_append]
    show (bif (x.2.2.2.take i).any (fun y => isT y.1 x.2.2.2[i].1) then false else _) = (!((x.2.2.2.take i).any ((fun y => isT y x.2.2.2[i].1) ∘ (·.1))) && _)
    rw [show ((fun y => isT y x.2.2.2[i].1) ∘ (·.1) : Ix → Bool) = fun y => isT y.1 x.2.2.2[i].1 from rfl]
    cases (x.2.2.2.take i).any fun y => isT y.1 x.2.2.2[i].1
    ·exact (rfl : onceR ((x.2.2.2.take i).map (·.1) ++ [x.2.2.2[i].1]) _ = _)
    ·rfl
   ·dsimp only [spec_l9Once.S4, spec_l9Once.s4]
    refine tn (by omega) ?_
    rw [wrap_succ (by omega)]
    exact ih
   ·dsimp only [spec_l9Once.S4, spec_l9Once.s4]
    refine tp (by omega) (ti (by omega) (ti hi ?_))
    rw [getD_in hi, getD_in (show j < x.2.2.2.length by omega), wrap_succ (by omega)]
    exact tbif (fun c => tl (by rw [show isT _ _ = true from c]; rfl)) fun c => by rw [show isT _ _ = false from c]; exact ih2
 suffices g : Tells (iter (spec_l9Once.S0 d) rnds ((0 : Int), x.1, x.2.1, x.2.2.1, x.2.2.2)) (· = (onceR [] (x.2.1.map fun c => c.1) && onceR [] (x.2.2.2.map fun c => c.1))) from g.eq
 refine (loopL (spec_l9Once.S0 d) x.2.1 (fun i => (i, x.1, x.2.1, x.2.2.1, x.2.2.2)) (fun i (r : List Col) => onceR ((x.2.1.take i).map fun c => c.1) (r.map fun c => c.1) && onceR [] (x.2.2.2.map fun c => c.1)) (by omega) (fun L => ?_) fun L i hi ih => ?_)
 ·dsimp only [spec_l9Once.S0, spec_l9Once.s0]
  exact tn (by omega) (two.mono fun r hr => by rw [hr]; rfl)
 ·dsimp only [spec_l9Once.S0, spec_l9Once.s0]
  refine tp (by omega) (ti hi ?_)
  rw [getD_in hi, wrap_succ (by omega)]
  refine tc (spec_l9Col.sp (by omega) h1 _) ?_
  have tk : (x.2.1.take i).length = i := by rw [List.length_take]; omega
  have f := firstI_app x.2.1[i].1 x.2.1[i] (x.2.1.drop (i + 1)) (isT_self _) (x.2.1.take i) 0
  rw [← drop_at hi, List.take_append_drop, tk, Nat.zero_add] at f
  rw [List.map_cons, onceR, List.any_map]
  rw [take_succ' hi, List.map_append] at ih
  rw [show ((fun y => isT y x.2.1[i].1) ∘ (·.1) : Col → Bool) = fun y => isT y.1 x.2.1[i].1 from rfl]
  cases c : (x.2.1.take i).any fun y => isT y.1 x.2.1[i].1
  ·exact tf (by rw [f.2 c]; simp) ih
  ·exact tt (by have := f.1 c; simp; omega) (tl rfl)
theorem impl_twice.sp {d : Nat} (hd : 1 ≤ d) {x : Df} (h : dfFit 140737488351232 x) : impl_twice.f d (x.1, x.2.1, x.2.2.1, x.2.2.2) = some (!(onceM x)) := by
 obtain ⟨d, rfl, _⟩ := dep hd
 rw [impl_twice.t_eq]
 dsimp only [impl_twice.m]
 have h1 := h.2.1.1
 have h4 := h.2.2.2.1
 have two : Tells (iter (impl_twice.S4 d) rnds (x.2.2.2, (x.2.2.2.length : Int), (0 : Int), x.1, x.2.1, x.2.2.1, x.2.2.2)) (· = !(onceR [] (x.2.2.2.map (·.1)))) := by
  refine loopL (impl_twice.S4 d) x.2.2.2 (fun i => (x.2.2.2, (x.2.2.2.length : Int), i, x.1, x.2.1, x.2.2.1, x.2.2.2)) (fun i (r : List Ix) => !(onceR ((x.2.2.2.take i).map (·.1)) (r.map (·.1)))) (by omega) (fun L => ?_) fun L i hi ih => ?_
  ·dsimp only [impl_twice.S4, impl_twice.s4]
   exact tn (by omega) (tl rfl)
  ·dsimp only [impl_twice.S4, impl_twice.s4]
   have tk : (x.2.2.2.take i).length = i := by rw [List.length_take]; omega
   refine tp (by omega) (ti hi (tt (by simp; omega) ?_))
   rw [getD_in hi, Int.toNat_natCast, Int.toNat_zero, List.drop_zero]
   have := loopStop (impl_twice.S6 d L) (x.2.2.2.take i) (fun j => (x.2.2.2, (x.2.2.2.length : Int), (i : Int), x.2.2.2.take i, ((x.2.2.2.take i).length : Int), j, x.1, x.2.1, x.2.2.1, x.2.2.2, x.2.2.2[i].1, x.2.2.2[i].2.1, x.2.2.2[i].2.2)) (fun y => isT y.1 x.2.2.2[i].1) true (!(onceR ((x.2.2.2.take (i + 1)).map fun c => c.1) ((x.2.2.2.drop (i + 1)).map fun c => c.1))) (by omega) (fun L6 => ?_) fun L6 j hj e ih2 => ?_
   ·refine this.mono fun r hr => ?_
    rw [hr, List.map_cons, onceR, List.any_map, take_succ' hi, List.map_append]
    rw [show ((fun y => isT y x.2.2.2[i].1) ∘ (·.1) : Ix → Bool) = fun y => isT y.1 x.2.2.2[i].1 from rfl]
    cases (x.2.2.2.take i).any fun y => isT y.1 x.2.2.2[i].1
    ·exact (rfl : (!onceR ((x.2.2.2.take i).map (·.1) ++ [x.2.2.2[i].1]) _) = _)
    ·rfl
   ·dsimp only [impl_twice.S6, impl_twice.s6]
    refine tn (by omega) ?_
    rw [wrap_succ (by omega)]
    exact ih
   ·dsimp only [impl_twice.S6, impl_twice.s6]
    refine tp (by omega) (ti hj ?_)
    rw [getD_in hj, wrap_succ (by omega)]
    exact tbif (fun c => tl (by rw [show isT _ _ = true from c]; rfl)) fun c => by rw [show isT _ _ = false from c]; exact ih2
 suffices g : Tells (iter (impl_twice.S0 d) rnds (x.2.1, (x.2.1.length : Int), (0 : Int), x.1, x.2.1, x.2.2.1, x.2.2.2)) (· = !(onceR [] (x.2.1.map fun c => c.1) && onceR [] (x.2.2.2.map fun c => c.1))) from g.eq
 refine (loopL (impl_twice.S0 d) x.2.1 (fun i => (x.2.1, (x.2.1.length : Int), i, x.1, x.2.1, x.2.2.1, x.2.2.2)) (fun i (r : List Col) => !(onceR ((x.2.1.take i).map fun c => c.1) (r.map fun c => c.1) && onceR [] (x.2.2.2.map fun c => c.1))) (by omega) (fun L => ?_) fun L i hi ih => ?_)
 ·dsimp only [impl_twice.S0, impl_twice.s0]
  exact tn (by omega) (two.mono fun r hr => by rw [hr]; rfl)
 ·dsimp only [impl_twice.S0, impl_twice.s0]
  have tk : (x.2.1.take i).length = i := by rw [List.length_take]; omega
  refine tp (by omega) (ti hi (tt (by simp; omega) ?_))
  rw [getD_in hi, Int.toNat_natCast, Int.toNat_zero, List.drop_zero]
  have := loopStop (impl_twice.S2 d L) (x.2.1.take i) (fun j => (x.2.1, (x.2.1.length : Int), (i : Int), x.2.1.take i, ((x.2.1.take i).length : Int), j, x.1, x.2.1, x.2.2.1, x.2.2.2, x.2.1[i].1, x.2.1[i].2.1, x.2.1[i].2.2)) (fun y => isT y.1 x.2.1[i].1) true (!(onceR ((x.2.1.take (i + 1)).map fun c => c.1) ((x.2.1.drop (i + 1)).map fun c => c.1) && onceR [] (x.2.2.2.map fun c => c.1))) (by omega) (fun L2 => ?_) fun L2 j hj e ih2 => ?_
  ·refine this.mono fun r hr => ?_
   rw [hr, List.map_cons, onceR, List.any_map, take_succ' hi, List.map_append]
   rw [show ((fun y => isT y x.2.1[i].1) ∘ (·.1) : Col → Bool) = fun y => isT y.1 x.2.1[i].1 from rfl]
   cases (x.2.1.take i).any fun y => isT y.1 x.2.1[i].1
   ·exact (rfl : (!(onceR ((x.2.1.take i).map (·.1) ++ [x.2.1[i].1]) _ && _)) = _)
   ·rfl
  ·dsimp only [impl_twice.S2, impl_twice.s2]
   refine tn (by omega) ?_
   rw [wrap_succ (by omega)]
   exact ih
  ·dsimp only [impl_twice.S2, impl_twice.s2]
   refine tp (by omega) (ti hj ?_)
   rw [getD_in hj, wrap_succ (by omega)]
   exact tbif (fun c => tl (by rw [show isT _ _ = true from c]; rfl)) fun c => by rw [show isT _ _ = false from c]; exact ih2
theorem words_split : splitL (⟨#[116, 97, 98, 108, 101, 32, 112, 114, 105, 109, 97, 114, 121, 32, 117, 110, 105, 113, 117, 101, 32, 105, 110, 100, 101, 120, 32, 110, 117, 108, 108, 32, 100, 101, 115, 99, 32, 105, 110, 116, 32, 110, 117, 109, 32, 116, 101, 120, 116, 32, 98, 111, 111, 108]⟩ : ByteArray) = wordsL := by kernel_rfl
theorem impl_isFree.sp {d : Nat} (hd : 3 ≤ d) {s : ByteArray} (hs : s.size ≤ 140737488351232) : impl_isFree.f d s = some (freeM s) := by
 obtain ⟨d, rfl, _⟩ := dep hd
 rw [impl_isFree.t_eq]
 dsimp only [impl_isFree.m]
 obtain ⟨d, rfl, _⟩ := dep (show 1 + 1 ≤ d by omega)
 rw [strings_Split.t_eq]
 have e : splitLaw ((⟨#[116, 97, 98, 108, 101, 32, 112, 114, 105, 109, 97, 114, 121, 32, 117, 110, 105, 113, 117, 101, 32, 105, 110, 100, 101, 120, 32, 110, 117, 108, 108, 32, 100, 101, 115, 99, 32, 105, 110, 116, 32, 110, 117, 109, 32, 116, 101, 120, 116, 32, 98, 111, 111, 108]⟩ : ByteArray), (⟨#[32]⟩ : ByteArray)) = some wordsL := by
  unfold splitLaw
  rw [if_pos ⟨rfl, by decide⟩, words_split]
 refine Tells.eq (tc e ?_)
 have := loopStop (impl_isFree.S0 (d + 1)) wordsL (fun i => (s, (wordsL.length : Int), i, wordsL)) (fun w => isT w s) false (nameM s.size 0 (bytesOf s)) (by decide) (fun L => ?_) fun L i hi e ih => ?_
 ·refine this.mono fun r hr => ?_
  rw [hr]; unfold freeM; cases (wordsL.any fun w => isT w s) <;> simp
 ·dsimp only [impl_isFree.S0, impl_isFree.s0]
  exact tn (by omega) (tc (impl_nameOk.sp (by omega) hs) (tl rfl))
 ·dsimp only [impl_isFree.S0, impl_isFree.s0]
  have h10 : wordsL.length = 10 := rfl
  refine tp (by omega) (ti hi ?_)
  rw [getD_in hi, wrap_succ (by omega)]
  exact tbif (fun c => tl (by rw [show isT wordsL[i] s = true from c]; rfl)) fun c => by rw [show isT wordsL[i] s = false from c]; exact ih
theorem impl_namesOk.sp {d : Nat} (hd : 4 ≤ d) {x : Df} (h : dfFit 140737488351232 x) : impl_namesOk.f d (x.1, x.2.1, x.2.2.1, x.2.2.2) = some (namesM x) := by
 obtain ⟨d, rfl, _⟩ := dep hd
 rw [impl_namesOk.t_eq]
 dsimp only [impl_namesOk.m]
 obtain ⟨h0, ⟨h1, h2⟩, h3, h4, h5⟩ := h
 refine Tells.eq (loopAnd (impl_namesOk.S0 d) x.2.1 (fun i => (x.2.1, (x.2.1.length : Int), i, x.1, x.2.1, x.2.2.1, x.2.2.2)) (fun c => freeM c.1) _ (by omega) (fun L => ?_) fun L i hi e ih => ?_)
 ·dsimp only [impl_namesOk.S0, impl_namesOk.s0]
  refine tn (by omega) ?_
  refine loopAnd (impl_namesOk.S2 d) x.2.2.2 (fun i => (x.2.2.2, (x.2.2.2.length : Int), i, x.1, x.2.1, x.2.2.1, x.2.2.2)) (fun c => freeM c.1) _ (by omega) (fun L => ?_) fun L i hi e ih => ?_
  ·dsimp only [impl_namesOk.S2, impl_namesOk.s2]
   exact tn (by omega) (tc (impl_isFree.sp (by omega) h0) (tl rfl))
  ·dsimp only [impl_namesOk.S2, impl_namesOk.s2]
   refine tp (by omega) (ti hi ?_)
   rw [getD_in hi, wrap_succ (by omega)]
   refine tc (impl_isFree.sp (by omega) (h5 _ (List.getElem_mem hi)).1) ?_
   cases freeM x.2.2.2[i].1
   ·exact tt rfl (tl rfl)
   ·exact tf rfl ih
 ·dsimp only [impl_namesOk.S0, impl_namesOk.s0]
  refine tp (by omega) (ti hi ?_)
  rw [getD_in hi, wrap_succ (by omega)]
  refine tc (impl_isFree.sp (by omega) (h2 _ (List.getElem_mem hi))) ?_
  cases freeM x.2.1[i].1
  ·exact tt rfl (tl rfl)
  ·exact tf rfl ih
def partsA (n : Int) (q : Nat → By → Bool) (e : Bool) : Nat → List By → Bool
 | _, [] => e
 | i, x :: r => inB x.1 0 (n - 1) && (!(q i x) && partsA n q e (i + 1) r)
theorem partsA_no (n : Int) (q : Nat → By → Bool) : ∀ (r : List By) (i : Nat), partsA n q false i r = false
 | [], _ => rfl
 | x :: r, i => by rw [partsA, partsA_no n q r]; simp
theorem partsA_eq {n : Int} {q : Nat → By → Bool} {l : List By} (h0 : ∀ a r, l = a :: r → q 0 a = false) (h1 : ∀ a b r, l = a :: b :: r → q 1 b = decide (a.1 = b.1)) : partsA n q (inB l.length 1 2) 0 l = partsM n l := by
 cases c : inB l.length 1 2 with
 | false => rw [partsA_no, partsM_not (by rw [c]; simp)]
 | true =>
  have := inB_iff.1 c
  match l, h0, h1, this with
  | [], _, _, h => simp at h
  | [a], h0, _, _ => simp [partsA, partsM, h0 a [] rfl]
  | [a, b], h0, h1, _ => simp [partsA, partsM, h0 a [b] rfl, h1 a b [] rfl]
  | _ :: _ :: _ :: r, _, _, h => simp only [List.length_cons] at h; omega
theorem spec_l9Parts.sp {d : Nat} (hd : 2 ≤ d) {x : Df} (hc : x.2.1.length ≤ 140737488351232) {l : List By} (hl : l.length ≤ 140737488351232) : spec_l9Parts.f d (x.1, x.2.1, x.2.2.1, x.2.2.2, l) = some (partsM x.2.1.length l) := by
 obtain ⟨d, rfl, _⟩ := dep hd
 rw [spec_l9Parts.t_eq]
 dsimp only [spec_l9Parts.m]
 have wr : IntKind.wrap IntKind.i64 ((x.2.1.length : Int) - 1) = (x.2.1.length : Int) - 1 := wrap_id (by omega) (by omega)
 have one : ∀ L i (hi : i < l.length) e, Tells (L (l, ((i + 1 : Nat) : Int), x.1, x.2.1, x.2.2.1, x.2.2.2)) (· = e) → Tells (spec_l9Parts.S0 d L (l, (i : Int), x.1, x.2.1, x.2.2.1, x.2.2.2)) (· = (inB l[i].1 0 ((x.2.1.length : Int) - 1) && (!(decide (0 < i) && decide (l[0].1 = l[i].1)) && e))) := by
  intro L i hi e ih
  dsimp only [spec_l9Parts.S0, spec_l9Parts.s0]
  refine tp (by omega) (ti hi ?_)
  rw [getD_in hi, wrap_succ (by omega), wr]
  refine tc (spec_l1In.sp (by omega) _ _ _) ?_
  cases inB l[i].1 0 ((x.2.1.length : Int) - 1)
  ·exact tt rfl (tl rfl)
  refine tf rfl ?_
  by_cases c : i = 0
  ·subst c
   exact tn (by omega) (ih.mono fun r hr => by rw [hr]; rfl)
  ·refine tp (by omega) (tt (by simp; omega) (ti hi ?_))
   have h0 : 0 < l.length := by omega
   have e0 : List.getD l (Int.toNat (0 : Int)) ((0 : Int), false) = l[0] := getD_in h0
   rw [e0]
   refine tbif (fun c2 => tl ?_) fun c2 => ih.mono fun r hr => ?_
   ·have c2 := beq_iff_eq.1 c2
    rw [decide_eq_true (show 0 < i by omega), decide_eq_true c2]; rfl
   ·have c2 := beq_eq_false_iff_ne.1 c2
    rw [hr, decide_eq_false c2]; simp
 have last : ∀ L, Tells (spec_l9Parts.S0 d L (l, (l.length : Int), x.1, x.2.1, x.2.2.1, x.2.2.2)) (· = inB l.length 1 2) := fun L => by
  dsimp only [spec_l9Parts.S0, spec_l9Parts.s0]
  exact tn (by omega) (tc (spec_l1In.sp (by omega) _ _ _) (tl rfl))
 have g := loopL (spec_l9Parts.S0 d) l (fun i => (l, i, x.1, x.2.1, x.2.2.1, x.2.2.2)) (fun i r => partsA x.2.1.length (fun i y => decide (0 < i) && decide ((l.head?.map (·.1)) = some y.1)) (inB l.length 1 2) i r) (by omega) (fun L => (last L).mono fun r hr => hr) fun L i hi ih => (one L i hi _ ih).mono fun r hr => by
  rw [hr, partsA]
  have : l.head? = some l[0] := by rw [List.head?_eq_getElem?, List.getElem?_eq_getElem (by omega)]
  rw [this]
  simp
 refine Tells.eq (g.mono fun r hr => ?_)
 rw [hr]
 exact partsA_eq (fun a r h => by simp) fun a b r h => by rw [h]; simp
theorem impl_partsOk.sp {d : Nat} (hd : 2 ≤ d) {x : Df} (hc : x.2.1.length ≤ 140737488351232) {l : List By} (hl : l.length ≤ 140737488351232) : impl_partsOk.f d (x.1, x.2.1, x.2.2.1, x.2.2.2, l) = some (partsM x.2.1.length l) := by
 obtain ⟨d, rfl, _⟩ := dep hd
 rw [impl_partsOk.t_eq]
 dsimp only [impl_partsOk.m]
 have wr : IntKind.wrap IntKind.i64 ((x.2.1.length : Int) - 1) = (x.2.1.length : Int) - 1 := wrap_id (by omega) (by omega)
 have g := loopL (impl_partsOk.S0 d) l (fun i => (l, l, (l.length : Int), i, x.1, x.2.1, x.2.2.1, x.2.2.2)) (fun i r => partsA x.2.1.length (fun i y => (l.take i).any fun z => z.1 == y.1) (inB l.length 1 2) i r) (by omega) (fun L => ?_) fun L i hi ih => ?_
 ·refine Tells.eq (g.mono fun r hr => ?_)
  rw [hr]
  exact partsA_eq (fun a r h => by simp) fun a b r h => by rw [h]; simp [Bool.beq_eq_decide_eq]
 ·dsimp only [impl_partsOk.S0, impl_partsOk.s0]
  exact tn (by omega) (tc (impl_in.sp (by omega) _ _ _) (tl rfl))
 ·dsimp only [impl_partsOk.S0, impl_partsOk.s0]
  have tk : (l.take i).length = i := by rw [List.length_take]; omega
  refine tp (by omega) (ti hi ?_)
  rw [getD_in hi, wr, Int.toNat_natCast, Int.toNat_zero, List.drop_zero, partsA]
  refine tc (impl_in.sp (by omega) _ _ _) ?_
  cases inB l[i].1 0 ((x.2.1.length : Int) - 1)
  ·exact tt rfl (tl rfl)
  refine tf rfl (tt (by simp; omega) ?_)
  have := loopStop (impl_partsOk.S2 d L) (l.take i) (fun j => (l, l, (l.length : Int), (i : Int), l.take i, ((l.take i).length : Int), j, x.1, x.2.1, x.2.2.1, x.2.2.2, l[i].1, l[i].2)) (fun z => z.1 == l[i].1) false (partsA x.2.1.length (fun i y => (l.take i).any fun z => z.1 == y.1) (inB l.length 1 2) (i + 1) (l.drop (i + 1))) (by omega) (fun L2 => ?_) fun L2 j hj e ih2 => ?_
  ·refine this.mono fun r hr => ?_
   rw [hr]
   cases (l.take i).any fun z => z.1 == l[i].1 <;> simp
  ·dsimp only [impl_partsOk.S2, impl_partsOk.s2]
   refine tn (by omega) ?_
   rw [wrap_succ (by omega)]
   exact ih
  ·dsimp only [impl_partsOk.S2, impl_partsOk.s2]
   refine tp (by omega) (ti hj ?_)
   rw [getD_in hj, wrap_succ (by omega)]
   exact tbif (fun c => tl (by rw [c]; rfl)) fun c => by rw [c]; exact ih2
theorem spec_l9AllParts.sp {d : Nat} (hd : 3 ≤ d) {x : Df} (h : dfFit 140737488351232 x) : spec_l9AllParts.f d (x.1, x.2.1, x.2.2.1, x.2.2.2) = some (allPartsM x) := by
 obtain ⟨d, rfl, _⟩ := dep hd
 rw [spec_l9AllParts.t_eq]
 dsimp only [spec_l9AllParts.m]
 obtain ⟨h0, ⟨h1, h2⟩, h3, h4, h5⟩ := h
 refine Tells.eq (loopAnd (spec_l9AllParts.S0 d) x.2.2.2 (fun i => (i, x.1, x.2.1, x.2.2.1, x.2.2.2)) (fun c => partsM x.2.1.length c.2.2) _ (by omega) (fun L => ?_) fun L i hi e ih => ?_)
 ·dsimp only [spec_l9AllParts.S0, spec_l9AllParts.s0]
  exact tn (by omega) (tc (spec_l9Parts.sp (by omega) h1 h3) (tl rfl))
 ·dsimp only [spec_l9AllParts.S0, spec_l9AllParts.s0]
  refine tp (by omega) (ti hi ?_)
  rw [getD_in hi, wrap_succ (by omega)]
  refine tc (spec_l9Parts.sp (by omega) h1 (h5 _ (List.getElem_mem hi)).2) ?_
  cases partsM x.2.1.length x.2.2.2[i].2.2
  ·exact tt rfl (tl rfl)
  ·exact tf rfl ih
theorem spec_CheckDef.sp {d : Nat} (hd : 6 ≤ d) {x : Df} (h : dfFit 140737488351232 x) : spec_CheckDef.f d (x.1, x.2.1, x.2.2.1, x.2.2.2) = some (checkM x) := by
 obtain ⟨d, rfl, _⟩ := dep hd
 rw [spec_CheckDef.t_eq]
 dsimp only [spec_CheckDef.m]
 unfold checkM
 refine Tells.eq (tc (spec_l9Names.sp (by omega) h) ?_)
 cases namesM x
 ·exact tt rfl (tl rfl)
 refine tf rfl (tc (spec_l9Types.sp (by omega) h) ?_)
 cases typesM x.2.1
 ·exact tt rfl (tl rfl)
 refine tf rfl (tc (spec_l9Once.sp (by omega) h) ?_)
 cases onceM x
 ·exact tt rfl (tl rfl)
 refine tf rfl (tif (fun c => tl (by rw [decide_eq_true c]; rfl)) fun c => ?_)
 rw [decide_eq_false c]
 refine tc (spec_l9AllParts.sp (by omega) h) ?_
 cases c2 : allPartsM x
 ·exact tt rfl (tl rfl)
 refine tf rfl ?_
 have pin := partsM_in (allParts_of c2).1
 have h3 := h.2.2.1
 refine loopStop (spec_CheckDef.S1 d) x.2.2.1 (fun i => (i, x.1, x.2.1, x.2.2.1, x.2.2.2)) (nullAt x.2.1) (4 : Int) (0 : Int) (by omega) (fun L => ?_) fun L i hi e ih => ?_
 ·dsimp only [spec_CheckDef.S1, spec_CheckDef.s1]
  exact tn (by omega) (tl rfl)
 ·dsimp only [spec_CheckDef.S1, spec_CheckDef.s1]
  refine tp (by omega) (ti hi ?_)
  rw [getD_in hi, wrap_succ (by omega)]
  have q := pin _ (List.getElem_mem hi)
  refine tt (by rw [decide_eq_true q.1, decide_eq_true q.2]; rfl) (tbif (fun c => tl ?_) fun c => ?_)
  ·rw [show nullAt x.2.1 x.2.2.1[i] = true from c]; rfl
  ·rw [show nullAt x.2.1 x.2.2.1[i] = false from c]; exact ih
theorem impl_CheckDef.sp {d : Nat} (hd : 5 ≤ d) {x : Df} (h : dfFit 140737488351232 x) : impl_CheckDef.f d (x.1, x.2.1, x.2.2.1, x.2.2.2) = some (checkM x) := by
 obtain ⟨d, rfl, _⟩ := dep hd
 rw [impl_CheckDef.t_eq]
 dsimp only [impl_CheckDef.m]
 have ⟨h0, ⟨h1, h2⟩, h3, h4, h5⟩ := h
 have e4 : partsM x.2.1.length x.2.2.1 = true → Tells (iter (impl_CheckDef.S4 d) rnds (x.2.2.1, (x.2.2.1.length : Int), (0 : Int), x.1, x.2.1, x.2.2.1, x.2.2.2)) (· = bif x.2.2.1.any (nullAt x.2.1) then 4 else 0) := fun c2 => by
  have pin := partsM_in c2
  refine loopStop (impl_CheckDef.S4 d) x.2.2.1 (fun i => (x.2.2.1, (x.2.2.1.length : Int), i, x.1, x.2.1, x.2.2.1, x.2.2.2)) (nullAt x.2.1) (4 : Int) (0 : Int) (by omega) (fun L => ?_) fun L i hi e ih => ?_
  ·dsimp only [impl_CheckDef.S4, impl_CheckDef.s4]
   exact tn (by omega) (tl rfl)
  ·dsimp only [impl_CheckDef.S4, impl_CheckDef.s4]
   refine tp (by omega) (ti hi ?_)
   rw [getD_in hi, wrap_succ (by omega)]
   have q := pin _ (List.getElem_mem hi)
   refine tt (by rw [decide_eq_true q.1, decide_eq_true q.2]; rfl) (tbif (fun c => tl ?_) fun c => ?_)
   ·rw [show nullAt x.2.1 x.2.2.1[i] = true from c]; rfl
   ·rw [show nullAt x.2.1 x.2.2.1[i] = false from c]; exact ih
 have e2 : Tells (iter (impl_CheckDef.S2 d) rnds (x.2.2.2, (x.2.2.2.length : Int), (0 : Int), x.1, x.2.1, x.2.2.1, x.2.2.2)) (· = bif allPartsM x then (bif x.2.2.1.any (nullAt x.2.1) then 4 else 0) else 5) := by
  have g := loopStop (impl_CheckDef.S2 d) x.2.2.2 (fun i => (x.2.2.2, (x.2.2.2.length : Int), i, x.1, x.2.1, x.2.2.1, x.2.2.2)) (fun c => !(partsM x.2.1.length c.2.2)) (5 : Int) (bif partsM x.2.1.length x.2.2.1 then (bif x.2.2.1.any (nullAt x.2.1) then 4 else 0) else 5) (by omega) (fun L => ?_) fun L i hi e ih => ?_
  ·refine g.mono fun r hr => ?_
   rw [hr]
   unfold allPartsM
   rw [← List.not_all_eq_any_not]
   cases x.2.2.2.all (fun c => partsM x.2.1.length c.2.2) <;> cases partsM x.2.1.length x.2.2.1 <;> rfl
  ·dsimp only [impl_CheckDef.S2, impl_CheckDef.s2]
   refine tn (by omega) (tc (impl_partsOk.sp (by omega) h1 h3) ?_)
   cases c : partsM x.2.1.length x.2.2.1
   ·exact tt rfl (tl rfl)
   ·exact tf rfl (e4 c)
  ·dsimp only [impl_CheckDef.S2, impl_CheckDef.s2]
   refine tp (by omega) (ti hi ?_)
   rw [getD_in hi, wrap_succ (by omega)]
   refine tc (impl_partsOk.sp (by omega) h1 (h5 _ (List.getElem_mem hi)).2) ?_
   cases partsM x.2.1.length x.2.2.2[i].2.2
   ·exact tt rfl (tl rfl)
   ·exact tf rfl ih
 have e0 : Tells (iter (impl_CheckDef.S0 d) rnds (x.2.1, (x.2.1.length : Int), (0 : Int), x.1, x.2.1, x.2.2.1, x.2.2.2)) (· = bif x.2.1.any (fun c => !(inB c.2.1 1 4)) then 2 else bif onceM x then (bif decide ((x.2.2.2.length : Int) > 2) then 6 else bif allPartsM x then (bif x.2.2.1.any (nullAt x.2.1) then 4 else 0) else 5) else 3) := by
  refine loopStop (impl_CheckDef.S0 d) x.2.1 (fun i => (x.2.1, (x.2.1.length : Int), i, x.1, x.2.1, x.2.2.1, x.2.2.2)) (fun c => !(inB c.2.1 1 4)) (2 : Int) _ (by omega) (fun L => ?_) fun L i hi e ih => ?_
  ·dsimp only [impl_CheckDef.S0, impl_CheckDef.s0]
   refine tn (by omega) (tc (impl_twice.sp (by omega) h) ?_)
   cases onceM x
   ·exact tt rfl (tl rfl)
   ·exact tf rfl (tif (fun c => tl (by rw [decide_eq_true c]; rfl)) fun c => by rw [decide_eq_false c]; exact e2)
  ·dsimp only [impl_CheckDef.S0, impl_CheckDef.s0]
   refine tp (by omega) (ti hi ?_)
   rw [getD_in hi, wrap_succ (by omega)]
   refine tc (impl_in.sp (by omega) _ _ _) ?_
   cases inB x.2.1[i].2.1 1 4
   ·exact tt rfl (tl rfl)
   ·exact tf rfl ih
 unfold checkM
 refine Tells.eq (tc (impl_namesOk.sp (by omega) h) ?_)
 cases namesM x
 ·exact tt rfl (tl rfl)
 refine tf rfl (tc (impl_in.sp (by omega) _ _ _) ?_)
 unfold typesM
 cases inB x.2.1.length 1 6
 ·exact tt rfl (tl (by rw [Bool.and_false]; rfl))
 refine tf rfl (e0.mono fun r hr => ?_)
 rw [hr, ← List.not_all_eq_any_not, Bool.and_true]
 cases x.2.1.all fun c => inB c.2.1 1 4 <;> rfl
theorem getD_set {β : Type} {l : List β} {i : Nat} {v z : β} (h : i < l.length) : List.getD (List.set l (Int.toNat (i : Int)) v) (Int.toNat (i : Int)) z = v := by simp [h]
theorem laws_markText.tot {d : Nat} (hd : 1 ≤ d) {n : Int} (h0 : 0 ≤ n) (h1 : n ≤ 4611686018427387905) : ∃ s, laws_markText.f d n = some s := by
 obtain ⟨d, rfl, _⟩ := dep hd
 rw [laws_markText.t_eq]
 dsimp only [laws_markText.m]
 suffices g : Tells (bif decide (n ≤ 0) then some (⟨#[109, 48]⟩ : ByteArray) else iter (laws_markText.S0 d) rnds (n, (⟨#[]⟩ : ByteArray))) (fun _ => True) from ⟨g.choose, g.choose_spec.1⟩
 refine tif (fun _ => tl trivial) fun c => ?_
 have key : ∀ k : Nat, k ≤ 19 → ∀ (n : Int) (s : ByteArray) (R : Nat), 0 ≤ n → n < 10 ^ k → s.size + k ≤ 1000 → k < R → Tells (iter (laws_markText.S0 d) R (n, s)) (fun _ => True) := by
  intro k
  induction k with
  | zero =>
   intro hk n s R h0 h1 hs hR
   obtain ⟨R, rfl⟩ : ∃ R', R = R' + 1 := ⟨R - 1, by omega⟩
   simp only [iter]
   dsimp only [laws_markText.S0, laws_markText.s0]
   have z : (⟨#[109]⟩ : ByteArray).size = 1 := rfl
   refine tn (by simp at h1; omega) (tp ?_ (tl trivial))
   show ¬ (_ > 9223372036854775807)
   omega
  | succ k ih =>
   intro hk n s R h0 h1 hs hR
   obtain ⟨R, rfl⟩ : ∃ R', R = R' + 1 := ⟨R - 1, by omega⟩
   simp only [iter]
   dsimp only [laws_markText.S0, laws_markText.s0]
   have z : (⟨#[109]⟩ : ByteArray).size = 1 := rfl
   have zz : ∀ x : Int, (numsStr [x]).size = 1 := fun x => strOfNums_size [x]
   refine tif (fun c => tp (by decide) (tp ?_ (tp (by decide) ?_))) fun c => tp ?_ (tl trivial)
   ·show ¬ (_ > 9223372036854775807)
    rw [zz]; omega
   ·rw [Int.tdiv_eq_ediv_of_nonneg h0, wrap_id (x := n / 10) (by omega) ?_]
    ·refine ih (by omega) (n / 10) _ R (by omega) ?_ ?_ (by omega)
     ·rw [Int.pow_succ] at h1
      generalize (10 : Int) ^ k = t at h1 ⊢
      omega
     ·show (ByteArray.append _ _).size + k ≤ 1000
      have : (ByteArray.append (numsStr [IntKind.wrap IntKind.u8 (IntKind.wrap IntKind.i64 ((48 : Int) + Int.tmod n 10))]) s).size = 1 + s.size := by
       show (_ ++ s).size = _
       rw [ByteArray.size_append, zz]
      rw [this]; omega
    ·have : (10 : Int) ^ (k + 1) ≤ 10 ^ 19 := by
      have h := Nat.pow_le_pow_right (show 0 < 10 by decide) hk
      exact_mod_cast h
     have e : (10 : Int) ^ 19 = 10000000000000000000 := by decide
     omega
   ·show ¬ (_ > 9223372036854775807)
    omega
 exact key 19 (by omega) n _ rnds (by omega) (by have : (10 : Int) ^ 19 = 10000000000000000000 := by decide
                                                 omega) (by decide) (rnds_gt (by decide))
def Mt (d : Nat) (n : Int) (s : ByteArray) : Prop := laws_markText.f d n = some s
def m3 (n : Int) : Bool := Int.tmod n 3 == 0
def Mc (d : Nat) (n : Int) (x : Col) : Prop := Mt d n x.1 ∧ x.2.1 = n + 1 ∧ x.2.2 = m3 (n + 2)
def My (n : Int) (x : By) : Prop := x.1 = n ∧ x.2 = m3 (n + 1)
abbrev w2 : By → Nat := fun _ => 2
abbrev w3 : Col → Nat := fun _ => 3
def wI (x : Ix) : Nat := 2 + 2 * x.2.2.length
def Mi (d : Nat) (n : Int) (x : Ix) : Prop := Mt d n x.1 ∧ x.2.1 = m3 (n + 1) ∧ MkL w2 My (n + 2) x.2.2
def wD (x : Df) : Nat := 1 + wSum w3 x.2.1 + wSum w2 x.2.2.1 + wSum wI x.2.2.2
def Md (d : Nat) (n : Int) (x : Df) : Prop := Mt (d + 1) n x.1 ∧ MkL w3 (Mc d) (n + 1) x.2.1 ∧ MkL w2 My (n + 1 + wSum w3 x.2.1) x.2.2.1 ∧ MkL wI (Mi d) (n + 1 + wSum w3 x.2.1 + wSum w2 x.2.2.1) x.2.2.2
theorem sum_const {β : Type} (k : Nat) (l : List β) : wSum (fun _ => k) l = k * l.length := by
 induction l with
 | nil => rfl
 | cons y l ih => rw [wSum_cons, ih, List.length_cons, Nat.mul_add]; omega
theorem laws_markColS.sp {d : Nat} (hd : 1 ≤ d) {l : List Col} {n : Int} (h0 : 0 ≤ n) (hl : l.length ≤ 140737488351232) (hn : n + wSum w3 l ≤ 4611686018427387904) :
  Tells (laws_markColS.f (d + 1) (l, n)) (fun r => r.1 = n + wSum w3 l ∧ MkL w3 (Mc d) n r.2 ∧ r.2.length = l.length) := by
 rw [laws_markColS.t_eq]
 dsimp only [laws_markColS.m]
 refine Tells.mono (P := fun r => r.1 = n + wSum w3 l ∧ MkL w3 (Mc d) n r.2 ∧ r.2.map w3 = l.map w3) ?_ fun r hr => ⟨hr.1, hr.2.1, map_len hr.2.2⟩
 refine loopMark (β := ByteArray × Int × Bool) (w := w3) (M := Mc d) (laws_markColS.S0 d) h0 hn hl (fun L n st h => ?_) fun L n st i Q hi h hwx h0 hn ih => ?_
 ·dsimp only [laws_markColS.S0, laws_markColS.s0]
  exact tn (by omega) (tl rfl)
 ·dsimp only [laws_markColS.S0, laws_markColS.s0]
  have hn : n + ((3 : Nat) : Int) ≤ 4611686018427387904 := hn
  have ew : ((w3 st[i] : Nat) : Int) = ((3 : Nat) : Int) := rfl
  obtain ⟨s, hs⟩ := laws_markText.tot hd h0 (by omega)
  refine tp (by omega) (tc hs (ti hi ?_))
  simp only [getD_set hi, List.set_set, List.length_set]
  rw [wrap_succ (by omega), wrapn (x := n + 1) (by omega) (by omega), wrapn (x := n + 1 + 1) (by omega) (by omega), wrapn (x := n + 1 + 1 + 1) (by omega) (by omega)]
  refine tt (by simp [hi]) (tp (by decide) (tt (by simp [hi]) ?_))
  have := ih (s, n + 1, m3 (n + 2)) rfl ⟨hs, rfl, rfl⟩
  rw [show n + 1 + 1 + 1 = n + ((w3 st[i] : Nat) : Int) by rw [ew]; omega, Int.toNat_natCast]
  rw [show n + 1 + 1 = n + 2 by omega]
  exact this
theorem laws_markByS.sp {d : Nat} (hd : 1 ≤ d) {l : List By} {n : Int} (h0 : 0 ≤ n) (hl : l.length ≤ 140737488351232) (hn : n + wSum w2 l ≤ 4611686018427387904) :
  Tells (laws_markByS.f d (l, n)) (fun r => r.1 = n + wSum w2 l ∧ MkL w2 My n r.2 ∧ r.2.length = l.length) := by
 obtain ⟨d, rfl, _⟩ := dep hd
 rw [laws_markByS.t_eq]
 dsimp only [laws_markByS.m]
 refine Tells.mono (P := fun r => r.1 = n + wSum w2 l ∧ MkL w2 My n r.2 ∧ r.2.map w2 = l.map w2) ?_ fun r hr => ⟨hr.1, hr.2.1, map_len hr.2.2⟩
 refine loopMark (β := Int × Bool) (w := w2) (M := My) (laws_markByS.S0 d) h0 hn hl (fun L n st h => ?_) fun L n st i Q hi h hwx h0 hn ih => ?_
 ·dsimp only [laws_markByS.S0, laws_markByS.s0]
  exact tn (by omega) (tl rfl)
 ·dsimp only [laws_markByS.S0, laws_markByS.s0]
  have hn : n + ((2 : Nat) : Int) ≤ 4611686018427387904 := hn
  have ew : ((w2 st[i] : Nat) : Int) = ((2 : Nat) : Int) := rfl
  refine tp (by omega) (ti hi ?_)
  simp only [getD_set hi, List.set_set, List.length_set]
  rw [wrap_succ (by omega), wrapn (x := n + 1) (by omega) (by omega), wrapn (x := n + 1 + 1) (by omega) (by omega)]
  refine tp (by decide) (tt (by simp [hi]) ?_)
  have := ih (n, m3 (n + 1)) rfl ⟨rfl, rfl⟩
  rw [show n + 1 + 1 = n + ((w2 st[i] : Nat) : Int) by rw [ew]; omega, Int.toNat_natCast]
  exact this
theorem laws_markIndexS.sp {d : Nat} (hd : 1 ≤ d) {l : List Ix} {n : Int} (h0 : 0 ≤ n) (hl : l.length ≤ 140737488351232) (hx : ∀ x ∈ l, x.2.2.length ≤ 140737488351232) (hn : n + wSum wI l ≤ 4611686018427387904) :
  Tells (laws_markIndexS.f (d + 1) (l, n)) (fun r => r.1 = n + wSum wI l ∧ MkL wI (Mi d) n r.2 ∧ r.2.map wI = l.map wI) := by
 rw [laws_markIndexS.t_eq]
 dsimp only [laws_markIndexS.m]
 refine Tells.mono (P := fun r => r.1 = n + wSum wI l ∧ MkL wI (Mi d) n r.2 ∧ r.2.map wI = l.map wI) ?_ fun r hr => hr
 refine loopMark (β := ByteArray × Bool × List (Int × Bool)) (w := wI) (M := Mi d) (laws_markIndexS.S0 d) h0 hn hl (fun L n st h => ?_) fun L n st i Q hi h hwx h0 hn ih => ?_
 ·dsimp only [laws_markIndexS.S0, laws_markIndexS.s0]
  exact tn (by omega) (tl rfl)
 ·dsimp only [laws_markIndexS.S0, laws_markIndexS.s0]
  obtain ⟨s, hs⟩ := laws_markText.tot hd h0 (by omega)
  refine tp (by omega) (tc hs (ti hi (tp (by decide) ?_)))
  simp only [getD_set hi, List.set_set, List.length_set, getD_in hi]
  obtain ⟨x, hx1, hx2⟩ := hwx
  have := hx x hx1
  unfold wI at hx2 hn
  rw [wrap_succ (by omega), wrapn (x := n + 1) (by omega) (by omega), wrapn (x := n + 1 + 1) (by omega) (by omega)]
  refine tt (by simp [hi]) (tt (by simp [hi]) ?_)
  refine tb (laws_markByS.sp (l := st[i].2.2) hd (by omega) (by omega) (by rw [sum_const]; omega)) fun r2 h2 => ?_
  rw [sum_const] at h2
  have := ih (s, m3 (n + 1), r2.2) (by show 2 + 2 * r2.2.length = 2 + 2 * st[i].2.2.length; rw [h2.2.2]) ⟨hs, rfl, by rw [show n + 2 = n + 1 + 1 by omega]; exact h2.2.1⟩
  unfold wI at this
  rw [h2.1, show n + 1 + 1 + ((2 * st[i].2.2.length : Nat) : Int) = n + ((2 + 2 * st[i].2.2.length : Nat) : Int) by omega, Int.toNat_natCast]
  exact this
theorem wI_wSum {a b : List Ix} (h : a.map wI = b.map wI) : wSum wI a = wSum wI b := by simp only [wSum, h]
theorem tneq {a b : Int} {α : Type} {x y : Option α} {Q : α → Prop} (h1 : a ≠ b → Tells x Q) (h2 : a = b → Tells y Q) : Tells (bif a != b then x else y) Q := by
 by_cases h : a = b
 ·subst h; exact tf (by simp) (h2 rfl)
 ·exact tt (by simp [h]) (h1 h)
theorem teq {a b : Int} {α : Type} {x y : Option α} {Q : α → Prop} (h1 : a = b → Tells x Q) (h2 : a ≠ b → Tells y Q) : Tells (bif a == b then x else y) Q := by
 by_cases h : a = b
 ·subst h; exact tt (by simp) (h1 rfl)
 ·exact tf (by simp [h]) (h2 h)
theorem spec_FirstBad.sp {d : Nat} (hd : 7 ≤ d) {l : List Df} (hl : l.length ≤ 140737488351232) (hx : ∀ x ∈ l, dfFit 140737488351232 x) : spec_FirstBad.f d l = some (firstM l) := by
 obtain ⟨d, rfl, _⟩ := dep hd
 rw [spec_FirstBad.t_eq]
 dsimp only [spec_FirstBad.m]
 suffices g : Tells (iter (spec_FirstBad.S0 d) rnds (l, (0 : Int))) (· = firstR l 0 l) from g.eq
 refine loopL (spec_FirstBad.S0 d) l (fun i => (l, i)) (fun i (r : List Df) => firstR l i r) (by omega) (fun L => ?_) fun L i hi ih => ?_
 ·dsimp only [spec_FirstBad.S0, spec_FirstBad.s0]
  exact tn (by omega) (tl rfl)
 ·dsimp only [spec_FirstBad.S0, spec_FirstBad.s0]
  refine tp (by omega) (ti hi ?_)
  rw [getD_in hi, firstR]
  refine tc (spec_CheckDef.sp (by omega) (hx _ (List.getElem_mem hi))) (tneq (fun c => tl (by rw [decide_eq_false c]; rfl)) fun c => tif (fun c2 => tl ?_) fun c2 => ?_)
  ·rw [decide_eq_false (show ¬ i ≤ 2 by omega), Bool.and_false]; rfl
  rw [decide_eq_true c, decide_eq_true (show i ≤ 2 by omega), decide_eq_false c2]
  refine loopAhead (spec_FirstBad.S2 d L) l i (by omega) (fun j => (l, (i : Int), j, (i : Int), false)) (fun y => isT y.1 l[i].1) (i : Int) _ (by omega) (fun L2 => ?_) fun L2 j hj e ih2 => ?_
  ·dsimp only [spec_FirstBad.S2, spec_FirstBad.s2]
   refine tn (by omega) ?_
   rw [wrap_succ (by omega)]
   exact ih
  ·dsimp only [spec_FirstBad.S2, spec_FirstBad.s2]
   refine tp (by omega) (ti (by omega) (ti hi ?_))
   rw [getD_in hi, getD_in (show j < l.length by omega), wrap_succ (by omega)]
   exact tbif (fun c => tl (by rw [show isT _ _ = true from c]; rfl)) fun c => by rw [show isT _ _ = false from c]; exact ih2
theorem impl_FirstBad.sp {d : Nat} (hd : 6 ≤ d) {l : List Df} (hl : l.length ≤ 140737488351232) (hx : ∀ x ∈ l, dfFit 140737488351232 x) : impl_FirstBad.f d l = some (firstM l) := by
 obtain ⟨d, rfl, _⟩ := dep hd
 rw [impl_FirstBad.t_eq]
 dsimp only [impl_FirstBad.m]
 suffices g : Tells (iter (impl_FirstBad.S0 d) rnds (l, l, (l.length : Int), (0 : Int))) (· = firstR l 0 l) from g.eq
 refine loopL (impl_FirstBad.S0 d) l (fun i => (l, l, (l.length : Int), i)) (fun i (r : List Df) => firstR l i r) (by omega) (fun L => ?_) fun L i hi ih => ?_
 ·dsimp only [impl_FirstBad.S0, impl_FirstBad.s0]
  exact tn (by omega) (tl rfl)
 ·dsimp only [impl_FirstBad.S0, impl_FirstBad.s0]
  have tk : (l.take i).length = i := by rw [List.length_take]; omega
  refine tp (by omega) (ti hi ?_)
  rw [getD_in hi, firstR]
  refine tif (fun c2 => tl ?_) fun c2 => ?_
  ·rw [decide_eq_false (show ¬ i ≤ 2 by omega), Bool.and_false]; rfl
  rw [decide_eq_true (show i ≤ 2 by omega), Bool.and_true]
  refine tc (impl_CheckDef.sp (by omega) (hx _ (List.getElem_mem hi))) (tneq (fun c => tl (by rw [decide_eq_false c]; rfl)) fun c => tt (by simp; omega) ?_)
  rw [decide_eq_true c, Int.toNat_natCast, Int.toNat_zero, List.drop_zero, c]
  refine loopStop (impl_FirstBad.S2 d L) (l.take i) (fun j => (l, (i : Int), l, (l.length : Int), (i : Int), l[i].1, l[i].2.1, l[i].2.2.1, l[i].2.2.2, (0 : Int), ((0 : Int) != 0), l.take i, ((l.take i).length : Int), j, l[i].1, l[i].2.1, l[i].2.2.1, l[i].2.2.2)) (fun y => isT y.1 l[i].1) (i : Int) (firstR l (i + 1) (l.drop (i + 1))) (by omega) (fun L2 => ?_) fun L2 j hj e ih2 => ?_
  ·dsimp only [impl_FirstBad.S2, impl_FirstBad.s2]
   refine tn (by omega) ?_
   rw [wrap_succ (by omega)]
   exact ih
  ·dsimp only [impl_FirstBad.S2, impl_FirstBad.s2]
   refine tp (by omega) (ti hj ?_)
   rw [getD_in hj, wrap_succ (by omega)]
   exact tbif (fun c => tl (by rw [show isT _ _ = true from c]; rfl)) fun c => by rw [show isT _ _ = false from c]; exact ih2
abbrev SCol : SS := .cons .str (.cons (.int .i64) (.one .bool))
abbrev SBy : SS := .cons (.int .i64) (.one .bool)
abbrev SIx : SS := .cons .str (.cons .bool (.one (.row SBy)))
abbrev SDf : SS := .cons .str (.cons (.row SCol) (.cons (.row SBy) (.one (.row SIx))))
theorem df_fit {x : Df} (h1 : okV .str x.1) (h2 : okV (.row SCol) x.2.1) (h3 : okV (.row SBy) x.2.2.1) (h4 : okV (.row SIx) x.2.2.2) : dfFit 140737488351232 x :=
 ⟨h1, ⟨okRow_len h2, fun y hy => (h2.2 y hy).1⟩, okRow_len h3, okRow_len h4, fun y hy => ⟨(h4.2 y hy).1, okRow_len (h4.2 y hy).2.2⟩⟩
theorem sum_wI (l : List Ix) : wSum wI l ≤ 2 * l.length + 2 * wSum (fun y : Ix => y.1.size + y.2.2.length) l := by
 induction l with
 | nil => simp [wSum]
 | cons y l ih =>
  rw [wSum_cons, wSum_cons, List.length_cons]
  unfold wI
  have : wSum (fun x : Ix => 2 + 2 * x.2.2.length) l ≤ 2 * l.length + 2 * wSum (fun y : Ix => y.1.size + y.2.2.length) l := ih
  omega
theorem wD_le (x : Df) : wD x ≤ 1 + 4 * dfW x := by
 unfold wD dfW
 rw [sum_const, sum_const]
 have := sum_wI x.2.2.2
 omega
def nmC : List ByteArray := [(⟨#[105, 100]⟩ : ByteArray), (⟨#[97]⟩ : ByteArray), (⟨#[98]⟩ : ByteArray), (⟨#[99]⟩ : ByteArray)]
def uvL : List ByteArray := [(⟨#[117]⟩ : ByteArray), (⟨#[118]⟩ : ByteArray)]
def colsD (k : Nat) (cs : List Col) : Prop := cs.map (·.1) = nmC.take k ∧ (∀ c ∈ cs, inB c.2.1 1 4 = true) ∧ (colAt cs 0).2.2 = false
def primD (cs : List Col) (ps : List By) : Prop := ps.any (nullAt cs) = false ∧ partsM cs.length ps = true
def idxD (cs : List Col) (xs : List Ix) : Prop := (xs.map (·.1) = [] ∨ (∃ u ∈ uvL, xs.map (·.1) = [u ++ (⟨#[98]⟩ : ByteArray)]) ∨ ∃ u ∈ uvL, ∃ v ∈ uvL, xs.map (·.1) = [u ++ (⟨#[99]⟩ : ByteArray), v ++ (⟨#[98]⟩ : ByteArray)]) ∧ ∀ x ∈ xs, partsM cs.length x.2.2 = true
def drawn (name : ByteArray) (x : Df) : Prop := x.1 = name ∧ (∃ k, 2 ≤ k ∧ k ≤ 4 ∧ colsD k x.2.1) ∧ primD x.2.1 x.2.2.1 ∧ idxD x.2.1 x.2.2.2
theorem drawn.names {name : ByteArray} {x : Df} (h : drawn name x) : ∀ c ∈ x.2.1, c.1 ∈ nmC := by
 obtain ⟨_, ⟨k, _, _, hk, _⟩, _⟩ := h
 intro c hc
 have := List.mem_map_of_mem (f := fun y : Col => y.1) hc
 rw [hk] at this
 exact List.mem_of_mem_take this
theorem goodM.cols {x : Df} (g : goodM x) : namesS x.2.1 ∧ (∀ c ∈ x.2.1, c.1.size ≤ 8 ∧ 1 ≤ c.2.1 ∧ c.2.1 ≤ 4) ∧ x.1.size ≤ 8 ∧ ∀ y ∈ x.2.2.2, y.1.size ≤ 8 := by
 obtain ⟨n1, n2, n3⟩ := g.names
 have t := g.types
 have hn : namesS x.2.1 := fun c hc => (freeM_size (n2 c hc)).2
 exact ⟨hn, fun c hc => ⟨hn c hc, inB_iff.1 (t.1 c hc)⟩, (freeM_size n1).2, fun y hy => (freeM_size (n3 y hy)).2⟩
abbrev Tok := Int × ByteArray
def wTable : ByteArray := ⟨#[116, 97, 98, 108, 101]⟩
def wPrimary : ByteArray := ⟨#[112, 114, 105, 109, 97, 114, 121]⟩
def wUnique : ByteArray := ⟨#[117, 110, 105, 113, 117, 101]⟩
def wIndex : ByteArray := ⟨#[105, 110, 100, 101, 120]⟩
def wNull : ByteArray := ⟨#[110, 117, 108, 108]⟩
def wDesc : ByteArray := ⟨#[100, 101, 115, 99]⟩
def mOpen : ByteArray := ⟨#[123]⟩
def mClose : ByteArray := ⟨#[125]⟩
def mComma : ByteArray := ⟨#[44]⟩
def mSemi : ByteArray := ⟨#[59]⟩
def colToks (c : Col) : List Tok := (1, c.1) :: (1, tyAt c.2.1) :: ((bif c.2.2 then [(1, wNull)] else []) ++ [(2, mSemi)])
def partToks (cs : List Col) (p : By) : List Tok := (1, (colAt cs p.1).1) :: (bif p.2 then [(1, wDesc)] else [])
def partsToks (cs : List Col) : List By → List Tok
 | [] => []
 | [p] => partToks cs p ++ [(2, mSemi)]
 | p :: q :: r => partToks cs p ++ (2, mComma) :: partsToks cs (q :: r)
def idxToks (cs : List Col) (x : Ix) : List Tok := (1, bif x.2.1 then wUnique else wIndex) :: (1, x.1) :: partsToks cs x.2.2
def defToks (x : Df) : List Tok := (1, wTable) :: (1, x.1) :: (2, mOpen) :: (x.2.1.flatMap colToks ++ (1, wPrimary) :: (partsToks x.2.1 x.2.2.1 ++ (x.2.2.2.flatMap (idxToks x.2.1) ++ [(2, mClose)])))
def allToks (l : List Df) : List Tok := l.flatMap defToks
def runM : List Int → Nat
 | [] => 0
 | c :: r => if inB c 97 122 = true ∨ inB c 48 57 = true then runM r + 1 else 0
def blankM (c : Int) : Bool := c == 32 || (c == 9 || (c == 10 || c == 13))
def lexB : Nat → List Int → Nat → List Tok → List Tok × Int
 | 0, w, i, t => if w = [] then (t, -1) else ([], (i : Int))
 | _ + 1, [], _, t => (t, -1)
 | n + 1, c :: w, i, t => if blankM c = true then lexB n w (i + 1) t else
   if inB c 97 122 = true then (if tokM 1 (c :: w.take (runM w)) = true then (if t.length = 500 then ([], (i : Int)) else lexB n (w.drop (runM w)) (i + 1 + runM w) (t ++ [(1, numsStr (c :: w.take (runM w)))])) else ([], (i : Int)))
   else (if tokM 2 [c] = true then (if t.length = 500 then ([], (i : Int)) else lexB n w (i + 1) (t ++ [(2, numsStr [c])])) else ([], (i : Int)))
theorem lexB_nil (n i : Nat) (t : List Tok) : lexB n [] i t = (t, -1) := by cases n <;> simp [lexB]
def Lx (w : List Int) (ts : List Tok) : Prop := ∀ n i t, w.length ≤ n → t.length + ts.length ≤ 500 → lexB n w i t = (t ++ ts, -1)
theorem Lx.nil : Lx [] [] := fun n i t _ _ => by rw [lexB_nil, List.append_nil]
theorem Lx.blank {c : Int} {w : List Int} {ts : List Tok} (hc : blankM c = true) (h : Lx w ts) : Lx (c :: w) ts := fun n i t hn ht => by
 obtain ⟨n, rfl⟩ : ∃ m, n = m + 1 := ⟨n - 1, by simp only [List.length_cons] at hn; omega⟩
 rw [lexB, if_pos hc]
 exact h n _ t (by simp only [List.length_cons] at hn; omega) ht
theorem Lx.mark {c : Int} {w : List Int} {ts : List Tok} (hc : blankM c = false) (hl : inB c 97 122 = false) (hm : markM [c] = true) (h : Lx w ts) : Lx (c :: w) ((2, numsStr [c]) :: ts) := fun n i t hn ht => by
 obtain ⟨n, rfl⟩ : ∃ m, n = m + 1 := ⟨n - 1, by simp only [List.length_cons] at hn; omega⟩
 simp only [List.length_cons] at ht hn
 have e : tokM 2 [c] = true := by unfold tokM; rw [if_neg (by decide), if_pos rfl]; exact hm
 rw [lexB, if_neg (by rw [hc]; simp), if_neg (by rw [hl]; simp), if_pos e, if_neg (by omega)]
 rw [h n _ _ (by omega) (by simp only [List.length_append, List.length_cons, List.length_nil]; omega)]
 simp
def endsN (w : List Int) : Prop := w = [] ∨ ∃ c r, w = c :: r ∧ inB c 97 122 = false ∧ inB c 48 57 = false
theorem runM_app : ∀ (a r : List Int), (∀ c ∈ a, inB c 97 122 = true ∨ inB c 48 57 = true) → endsN r → runM (a ++ r) = a.length
 | [], r, _, hr => by
  rcases hr with rfl | ⟨c, r, rfl, h1, h2⟩
  ·rfl
  ·simp [runM, h1, h2]
 | c :: a, r, h, hr => by
  have ih := runM_app a r (fun x hx => h x (List.mem_cons_of_mem _ hx)) hr
  rw [List.cons_append, runM, ih, if_pos (h c List.mem_cons_self), List.length_cons]
theorem nameM_rest (n : Int) : ∀ (a : List Int) (i : Nat), 0 < i → nameM n i a = true → ∀ c ∈ a, inB c 97 122 = true ∨ inB c 48 57 = true
 | [], i, _, h => by simp
 | c :: a, i, hi, h => by
  rw [nameM] at h
  split at h
  ·rename_i h1
   have := nameM_rest n a (i + 1) (by omega) h
   exact fun x hx => by rcases List.mem_cons.1 hx with rfl | hx; exact Or.inl h1; exact this x hx
  ·split at h
   ·omega
   ·split at h
    ·rename_i h1
     have := nameM_rest n a (i + 1) (by omega) h
     exact fun x hx => by rcases List.mem_cons.1 hx with rfl | hx; exact Or.inr h1; exact this x hx
    ·cases h
theorem Lx.name {b w : List Int} {ts : List Tok} (hb : nameM b.length 0 b = true) (he : endsN w) (h : Lx w ts) : Lx (b ++ w) ((1, numsStr b) :: ts) := fun n i t hn ht => by
 match b, hb with
 | [], hb => simp [nameM, inB] at hb
 | c :: a, hb =>
  obtain ⟨n, rfl⟩ : ∃ m, n = m + 1 := ⟨n - 1, by simp only [List.cons_append, List.length_cons] at hn; omega⟩
  simp only [List.length_cons, List.cons_append, List.length_append] at ht hn
  have hl : inB c 97 122 = true ∧ nameM ((c :: a).length : Nat) 1 a = true := by
   rw [nameM] at hb
   split at hb
   ·rename_i h1; exact ⟨h1, hb⟩
   ·rw [if_pos rfl] at hb; cases hb
  have hrest := nameM_rest _ a 1 (by omega) hl.2
  have nb : ¬ blankM c = true := by
   have := inB_iff.1 hl.1
   unfold blankM
   simp; omega
  have ok : tokM 1 (c :: a) = true := by unfold tokM; rw [if_pos rfl]; exact hb
  rw [List.cons_append, lexB, if_neg nb, if_pos hl.1, runM_app a w hrest he, List.take_left, List.drop_left, if_pos ok, if_neg (by omega)]
  rw [h n _ _ (by omega) (by simp only [List.length_append, List.length_cons, List.length_nil]; omega)]
  simp
theorem bytes_app (a b : ByteArray) : bytesOf (a ++ b) = bytesOf a ++ bytesOf b := by
 simp [strNums, ByteArray.data_append]
theorem blank_sp : blankM 32 = true := by decide
theorem ends_sp (w : List Int) : endsN (32 :: w) := .inr ⟨32, w, rfl, by decide, by decide⟩
theorem ends_comma (w : List Int) : endsN (44 :: w) := .inr ⟨44, w, rfl, by decide, by decide⟩
theorem ends_semi (w : List Int) : endsN (59 :: w) := .inr ⟨59, w, rfl, by decide, by decide⟩
theorem Lx.name' {s : ByteArray} {w : List Int} {ts : List Tok} (hb : nameM s.size 0 (bytesOf s) = true) (he : endsN w) (h : Lx w ts) : Lx (bytesOf s ++ w) ((1, s) :: ts) := by
 have := Lx.name (b := bytesOf s) (by rw [bytesOf_length]; exact hb) he h
 rwa [show numsStr (bytesOf s) = s from strOf_bytesOf s] at this
theorem Lx.semi {w : List Int} {ts : List Tok} (h : Lx w ts) : Lx (59 :: 32 :: w) ((2, mSemi) :: ts) := Lx.mark (c := 59) (by decide) (by decide) (by decide) (h.blank blank_sp)
theorem free_name {s : ByteArray} (h : freeM s = true) : nameM s.size 0 (bytesOf s) = true := by
 unfold freeM at h; rw [Bool.and_eq_true] at h; exact h.1
theorem tyAt_name : ∀ t : Int, inB t 1 4 = true → nameM (tyAt t).size 0 (bytesOf (tyAt t)) = true := by
 intro t h
 have := inB_iff.1 h
 have : t = 1 ∨ t = 2 ∨ t = 3 ∨ t = 4 := by omega
 rcases this with e | e | e | e <;> subst e <;> decide +kernel
def colBy (c : Col) : List Int := bytesOf c.1 ++ 32 :: (bytesOf (tyAt c.2.1) ++ ((bif c.2.2 then 32 :: bytesOf wNull else []) ++ [59, 32]))
theorem colS_bytes (s : ByteArray) (c : Col) : bytesOf (colS s c) = bytesOf s ++ colBy c := by
 have e1 : bytesOf (⟨#[32]⟩ : ByteArray) = [32] := by decide +kernel
 have e2 : bytesOf (⟨#[32, 110, 117, 108, 108]⟩ : ByteArray) = 32 :: bytesOf wNull := by decide +kernel
 have e3 : bytesOf (⟨#[59, 32]⟩ : ByteArray) = [59, 32] := by decide +kernel
 unfold colS colBy
 cases c.2.2 <;> simp only [cond_true, cond_false, bytes_app, e1, e2, e3] <;> simp
theorem foldl_bytes {β : Type} (f : ByteArray → β → ByteArray) (g : β → List Int) (h : ∀ s x, bytesOf (f s x) = bytesOf s ++ g x) : ∀ (l : List β) (s : ByteArray), bytesOf (l.foldl f s) = bytesOf s ++ l.flatMap g
 | [], s => by simp
 | x :: r, s => by rw [List.foldl_cons, foldl_bytes f g h r, h, List.flatMap_cons, List.append_assoc]
theorem null_name : nameM wNull.size 0 (bytesOf wNull) = true ∧ nameM wDesc.size 0 (bytesOf wDesc) = true ∧ nameM wTable.size 0 (bytesOf wTable) = true ∧ nameM wPrimary.size 0 (bytesOf wPrimary) = true ∧ nameM wUnique.size 0 (bytesOf wUnique) = true ∧ nameM wIndex.size 0 (bytesOf wIndex) = true := by decide +kernel
theorem Lx.col {c : Col} {w : List Int} {ts : List Tok} (hf : freeM c.1 = true) (ht : inB c.2.1 1 4 = true) (h : Lx w ts) : Lx (colBy c ++ w) (colToks c ++ ts) := by
 unfold colBy colToks
 simp only [List.append_assoc, List.cons_append, List.nil_append]
 refine Lx.name' (free_name hf) (ends_sp _) (Lx.blank blank_sp ?_)
 cases c.2.2 with
 | true =>
  simp only [cond_true, List.cons_append, List.nil_append]
  exact Lx.name' (tyAt_name _ ht) (ends_sp _) (Lx.blank blank_sp (Lx.name' null_name.1 (ends_semi _) h.semi))
 | false =>
  simp only [cond_false, List.nil_append]
  exact Lx.name' (tyAt_name _ ht) (ends_semi _) h.semi
theorem Lx.cols {w : List Int} {ts : List Tok} (h : Lx w ts) : ∀ (cs : List Col), (∀ c ∈ cs, freeM c.1 = true ∧ inB c.2.1 1 4 = true) → Lx (cs.flatMap colBy ++ w) (cs.flatMap colToks ++ ts)
 | [], _ => h
 | c :: cs, hc => by
  rw [List.flatMap_cons, List.flatMap_cons, List.append_assoc, List.append_assoc]
  exact Lx.col (hc c List.mem_cons_self).1 (hc c List.mem_cons_self).2 (Lx.cols h cs fun x hx => hc x (List.mem_cons_of_mem _ hx))
theorem Lx.parts {cs : List Col} (hn : ∀ c ∈ cs, freeM c.1 = true) {w : List Int} {ts : List Tok} (h : Lx w ts) {ps : List By} (hp : partsM cs.length ps = true) : Lx (bytesOf (partTx cs ps) ++ w) (partsToks cs ps ++ ts) := by
 have pin := partsM_in hp
 have ll := partsM_len hp
 have e1 : bytesOf (⟨#[32, 100, 101, 115, 99]⟩ : ByteArray) = 32 :: bytesOf wDesc := by decide +kernel
 have e2 : bytesOf (⟨#[44, 32]⟩ : ByteArray) = [44, 32] := by decide +kernel
 have e3 : bytesOf (⟨#[59, 32]⟩ : ByteArray) = [59, 32] := by decide +kernel
 have one : ∀ p ∈ ps, ∀ {c : Int} {w : List Int} {ts : List Tok}, endsN (c :: w) → Lx (c :: w) ts → Lx (bytesOf (partOne cs p) ++ c :: w) (partToks cs p ++ ts) := fun p hp c w ts he h => by
  have nm := free_name (hn _ (at_mem (z := (ByteArray.empty, (0 : Int), false)) (pin p hp).1 (pin p hp).2))
  unfold partOne partToks
  cases p.2 with
  | true =>
   simp only [cond_true, bytes_app, e1, List.append_assoc, List.cons_append, List.nil_append]
   exact Lx.name' nm (ends_sp _) (Lx.blank blank_sp (Lx.name' null_name.2.1 he h))
  | false =>
   simp only [cond_false, List.cons_append, List.nil_append]
   exact Lx.name' nm he h
 match ps, one, ll with
 | [p], one, _ =>
  unfold partTx
  rw [bytes_app, e3, partsToks, List.append_assoc, List.append_assoc]
  exact one p List.mem_cons_self (ends_semi _) h.semi
 | [p, q], one, _ =>
  unfold partTx
  rw [bytes_app, bytes_app, bytes_app, e2, e3, partsToks, partsToks]
  simp only [List.append_assoc, List.cons_append, List.nil_append]
  exact one p List.mem_cons_self (ends_comma _) (Lx.mark (c := 44) (by decide) (by decide) (by decide) (Lx.blank blank_sp (one q (List.mem_cons_of_mem _ List.mem_cons_self) (ends_semi _) h.semi)))
 | [], _, l => exact absurd l.1 (by simp)
 | _ :: _ :: _ :: _, _, l => exact absurd l.2 (by simp only [List.length_cons]; omega)
def idxBy (cs : List Col) (x : Ix) : List Int := bytesOf (bif x.2.1 then wUnique else wIndex) ++ 32 :: (bytesOf x.1 ++ 32 :: bytesOf (partTx cs x.2.2))
theorem idxS_bytes (cs : List Col) (s : ByteArray) (x : Ix) : bytesOf (idxS cs s x) = bytesOf s ++ idxBy cs x := by
 have e1 : bytesOf (⟨#[32]⟩ : ByteArray) = [32] := by decide +kernel
 have e2 : bytesOf (⟨#[117, 110, 105, 113, 117, 101, 32]⟩ : ByteArray) = bytesOf wUnique ++ [32] := by decide +kernel
 have e3 : bytesOf (⟨#[105, 110, 100, 101, 120, 32]⟩ : ByteArray) = bytesOf wIndex ++ [32] := by decide +kernel
 unfold idxS idxBy
 cases x.2.1 <;> simp only [cond_true, cond_false, bytes_app, e1, e2, e3] <;> simp
theorem Lx.idxs {cs : List Col} (hn : ∀ c ∈ cs, freeM c.1 = true) {w : List Int} {ts : List Tok} (h : Lx w ts) : ∀ (xs : List Ix), (∀ x ∈ xs, freeM x.1 = true ∧ partsM cs.length x.2.2 = true) → Lx (xs.flatMap (idxBy cs) ++ w) (xs.flatMap (idxToks cs) ++ ts)
 | [], _ => h
 | x :: xs, hx => by
  rw [List.flatMap_cons, List.flatMap_cons, List.append_assoc, List.append_assoc]
  have ih := Lx.idxs hn h xs fun y hy => hx y (List.mem_cons_of_mem _ hy)
  have q := hx x List.mem_cons_self
  unfold idxBy idxToks
  simp only [List.append_assoc, List.cons_append]
  have un : nameM (bif x.2.1 then wUnique else wIndex).size 0 (bytesOf (bif x.2.1 then wUnique else wIndex)) = true := by
   cases x.2.1
   ·exact null_name.2.2.2.2.2
   ·exact null_name.2.2.2.2.1
  exact Lx.name' un (ends_sp _) (Lx.blank blank_sp (Lx.name' (free_name q.1) (ends_sp _) (Lx.blank blank_sp (Lx.parts hn ih q.2))))
theorem Lx.table {x : Df} (g : goodM x) {w : List Int} {ts : List Tok} (h : Lx w ts) : Lx (bytesOf (defTx x) ++ w) (defToks x ++ ts) := by
 have n := g.names
 have t := g.types
 obtain ⟨p1, p2⟩ := g.parts
 have e1 : bytesOf (⟨#[116, 97, 98, 108, 101, 32]⟩ : ByteArray) = bytesOf wTable ++ [32] := by decide +kernel
 have e2 : bytesOf (⟨#[32, 123, 32]⟩ : ByteArray) = [32, 123, 32] := by decide +kernel
 have e3 : bytesOf (⟨#[112, 114, 105, 109, 97, 114, 121, 32]⟩ : ByteArray) = bytesOf wPrimary ++ [32] := by decide +kernel
 have e4 : bytesOf (⟨#[125]⟩ : ByteArray) = [125] := by decide +kernel
 have e : defTx x = restTx x (x.2.1.foldl colS (headTx x)) := by unfold defTx; rw [decide_eq_true (checkM_iff.2 g)]; rfl
 rw [e]
 unfold restTx headTx defToks
 rw [bytes_app, foldl_bytes _ _ (idxS_bytes x.2.1), bytes_app, bytes_app, foldl_bytes _ _ colS_bytes, bytes_app, bytes_app, e1, e2, e3, e4]
 simp only [List.append_assoc, List.cons_append, List.nil_append]
 refine Lx.name' null_name.2.2.1 (ends_sp _) (Lx.blank blank_sp (Lx.name' (free_name n.1) (ends_sp _) (Lx.blank blank_sp (Lx.mark (c := 123) (by decide) (by decide) (by decide) (Lx.blank blank_sp ?_)))))
 refine Lx.cols (Lx.name' null_name.2.2.2.1 (ends_sp _) (Lx.blank blank_sp (Lx.parts n.2.1 (Lx.idxs n.2.1 (Lx.mark (c := 125) (by decide) (by decide) (by decide) h) _ fun y hy => ⟨n.2.2 y hy, p2 y hy⟩) p1))) _ fun c hc => ⟨n.2.1 c hc, t.1 c hc⟩
theorem Lx.all : ∀ (l : List Df), (∀ x ∈ l, goodM x) → Lx (bytesOf (defsTx l)) (allToks l) := by
 intro l h
 have e : bytesOf (defsTx l) = l.flatMap fun x => bytesOf (defTx x) ++ [10] := by
  unfold defsTx
  rw [foldl_bytes defsS (fun x => bytesOf (defTx x) ++ [10])]
  ·have : bytesOf (⟨#[]⟩ : ByteArray) = [] := by decide +kernel
   rw [this, List.nil_append]
  ·intro s x
   have e10 : bytesOf (⟨#[10]⟩ : ByteArray) = [10] := by decide +kernel
   unfold defsS
   rw [bytes_app, bytes_app, e10]
 rw [e]
 clear e
 induction l with
 | nil => exact Lx.nil
 | cons x l ih =>
  rw [List.flatMap_cons, List.append_assoc]
  have ihl := ih fun y hy => h y (List.mem_cons_of_mem _ hy)
  have := Lx.table (h x List.mem_cons_self) (Lx.blank (c := 10) (by decide) ihl)
  simpa [allToks] using this
theorem laws_eqDefS.self {d : Nat} (hd : 6 ≤ d) {l : List Df} (hl : l.length ≤ 140737488351232) (hx : ∀ x ∈ l, dfFit 140737488351232 x) : laws_eqDefS.f d (l, l) = some true := by
 obtain ⟨d, rfl, _⟩ := dep hd
 rw [laws_eqDefS.t_eq]
 refine Tells.eq ?_
 dsimp only [laws_eqDefS.m]
 refine tf (by simp) ?_
 refine loopE (laws_eqDefS.S0 d) l.length (fun i => (l, l, i)) (fun _ r => r = true) (by omega) (fun L => ?_) fun L i hi ih => ?_
 ·dsimp only [laws_eqDefS.S0, laws_eqDefS.s0]
  exact tn (by omega) (tl rfl)
 ·dsimp only [laws_eqDefS.S0, laws_eqDefS.s0]
  refine tp (by omega) (ti hi (ti hi ?_))
  rw [getD_in hi, wrap_succ (by omega)]
  exact tc (laws_eqDef.self (by omega) (hx _ (List.getElem_mem hi))) (tf rfl ih)
theorem wD_parts (x : Df) : 3 * x.2.1.length ≤ wD x ∧ 2 * x.2.2.1.length ≤ wD x ∧ 2 * x.2.2.2.length ≤ wD x ∧ wSum wI x.2.2.2 ≤ wD x := by
 unfold wD
 rw [sum_const, sum_const]
 have h : ∀ l : List Ix, 2 * l.length ≤ wSum wI l := fun l => by
  induction l with
  | nil => simp
  | cons y l ih =>
   rw [wSum_cons, List.length_cons]
   have : 2 ≤ wI y := by unfold wI; omega
   omega
 have := h x.2.2.2
 omega
theorem wI_mem {l : List Ix} {y : Ix} (h : y ∈ l) : 2 * y.2.2.length ≤ wSum wI l := by
 have : wI y ≤ wSum wI l := mem_wSum (w := wI) h
 unfold wI at this ⊢
 omega
theorem laws_markDefS.sp {d : Nat} (hd : 1 ≤ d) {l : List Df} {n : Int} (h0 : 0 ≤ n) (hl : l.length ≤ 140737488351232) (hn : n + wSum wD l ≤ 100000000000) :
  Tells (laws_markDefS.f (d + 2) (l, n)) (fun r => r.1 = n + wSum wD l ∧ MkL wD (Md d) n r.2 ∧ r.2.map wD = l.map wD) := by
 rw [laws_markDefS.t_eq]
 dsimp only [laws_markDefS.m]
 refine Tells.mono (P := fun r => r.1 = n + wSum wD l ∧ MkL wD (Md d) n r.2 ∧ r.2.map wD = l.map wD) ?_ fun r hr => hr
 refine loopMark (β := ByteArray × List (ByteArray × Int × Bool) × List (Int × Bool) × List (ByteArray × Bool × List (Int × Bool))) (w := wD) (M := Md d) (laws_markDefS.S0 (d + 1)) h0 (by omega) hl (fun L n st h => ?_) fun L n st i Q hi h hwx h0 hn2 ih => ?_
 ·dsimp only [laws_markDefS.S0, laws_markDefS.s0]
  exact tn (by omega) (tl rfl)
 ·dsimp only [laws_markDefS.S0, laws_markDefS.s0]
  obtain ⟨x, hx1, hx2⟩ := hwx
  have hW : wD x ≤ wSum wD l := mem_wSum (w := wD) hx1
  rw [hx2] at hW
  obtain ⟨s, hs⟩ := laws_markText.tot (d := d + 1) (by omega) h0 (by omega)
  have wp := wD_parts st[i]
  have e3 : wSum w3 st[i].2.1 = 3 * st[i].2.1.length := sum_const 3 _
  have e2 : wSum w2 st[i].2.2.1 = 2 * st[i].2.2.1.length := sum_const 2 _
  have eD : wD st[i] = 1 + wSum w3 st[i].2.1 + wSum w2 st[i].2.2.1 + wSum wI st[i].2.2.2 := rfl
  refine tp (by omega) (tc hs (ti hi ?_))
  simp only [getD_set hi, List.set_set, List.length_set, getD_in hi]
  rw [wrap_succ (by omega), wrapn (x := n + 1) (by omega) (by omega)]
  refine tt (by simp [hi]) (tb (laws_markColS.sp (l := st[i].2.1) hd (by omega) (by omega) (by omega)) fun r2 h2 => tt (by simp [hi]) (tb (laws_markByS.sp (l := st[i].2.2.1) (by omega) (by omega) (by omega) (by omega)) fun r3 h3 => tt (by simp [hi]) (tb (laws_markIndexS.sp (l := st[i].2.2.2) hd (by omega) (by omega) (fun y hy => by have := wI_mem hy; omega) (by omega)) fun r4 h4 => ?_)))
  have f3 : wSum w3 r2.2 = wSum w3 st[i].2.1 := by rw [sum_const, sum_const, h2.2.2]
  have f2 : wSum w2 r3.2 = wSum w2 st[i].2.2.1 := by rw [sum_const, sum_const, h3.2.2]
  have fI := wI_wSum h4.2.2
  have := ih (s, r2.2, r3.2, r4.2) (by show 1 + wSum w3 r2.2 + wSum w2 r3.2 + wSum wI r4.2 = _; rw [f3, f2, fI, eD]) ⟨hs, h2.2.1, by show MkL w2 My (n + 1 + wSum w3 r2.2) r3.2; rw [f3, ← h2.1]; exact h3.2.1, by show MkL wI (Mi d) (n + 1 + wSum w3 r2.2 + wSum w2 r3.2) r4.2; rw [f3, f2, ← h2.1, ← h3.1]; exact h4.2.1⟩
  rw [Int.toNat_natCast]
  have en : n + (wD st[i] : Nat) = r4.1 := by rw [h4.1, h3.1, h2.1, eD]; omega
  rw [en] at this
  exact this
theorem dfFit_w {k : Nat} {x : Df} (h : dfW x ≤ k) : dfFit k x := by
 unfold dfW at h
 refine ⟨by omega, ⟨by omega, fun y hy => ?_⟩, by omega, by omega, fun y hy => ?_⟩
 ·have h : y.1.size ≤ wSum (fun y : Col => y.1.size) x.2.1 := mem_wSum (w := fun y : Col => y.1.size) hy
  omega
 ·have h : y.1.size + y.2.2.length ≤ wSum (fun y : Ix => y.1.size + y.2.2.length) x.2.2.2 := mem_wSum (w := fun y : Ix => y.1.size + y.2.2.length) hy
  omega
theorem dfs_fit {l : List Df} (h : okV (.row SDf) l) : l.length ≤ 140737488351232 ∧ ∀ x ∈ l, dfFit 140737488351232 x :=
 ⟨okRow_len h, fun x hx => by have q := h.2 x hx; exact df_fit (x := x) q.1 q.2.1 q.2.2.1 q.2.2.2⟩
theorem laws_szDefS.sp {d : Nat} (hd : 5 ≤ d) {l : List Df} {left : Int} (h0 : 0 ≤ left) (h1 : left ≤ 1048576) (hl : l.length ≤ 140737488351232) (hx : ∀ x ∈ l, dfFit 140737488351232 x) :
  Tells (laws_szDefS.f d (l, left)) fun r => r ≤ left ∧ (0 ≤ r → (l.length : Int) + wSum dfW l ≤ left - r) := by
 obtain ⟨d, rfl, _⟩ := dep hd
 rw [laws_szDefS.t_eq]
 dsimp only [laws_szDefS.m]
 rw [wrap_id (by omega) (by omega)]
 refine tif (fun h => tl ⟨by omega, by omega⟩) fun h => ?_
 refine (loopSz (w := dfW) (laws_szDefS.S0 d) (by omega) hl (fun L st => ?_) fun L st i Q hi h0 h1 hq ih => ?_).mono fun r hr => ⟨by omega, fun h => by have := hr.2 h; omega⟩
 ·dsimp only [laws_szDefS.S0, laws_szDefS.s0]
  exact tn (by omega) (tl rfl)
 ·dsimp only [laws_szDefS.S0, laws_szDefS.s0]
  refine tp (by omega) (ti hi ?_)
  rw [getD_in hi, wrap_succ (by omega)]
  refine tb (laws_szDef.sp (by omega) h0 (by omega) (hx _ (List.getElem_mem hi))) fun a ha => tif (fun _ => tl hq) fun h => ih a (by omega) (ha.2 (by omega)).2
theorem dfs_small {l : List Df} {n : Int} (h : (l.length : Int) + wSum dfW l ≤ 1048576 - n) (hn : 0 ≤ n) : l.length ≤ 1048576 ∧ ∀ x ∈ l, dfFit 1048576 x := by
 refine ⟨by omega, fun x hx => dfFit_w ?_⟩
 have : dfW x ≤ wSum dfW l := mem_wSum (w := dfW) hx
 omega
theorem laws_toDefS.sp {d : Nat} (hd : 6 ≤ d) {l : List Df} (hl : l.length ≤ 1048576) (hx : ∀ x ∈ l, dfFit 1048576 x) : laws_toDefS.f d l = some l := by
 obtain ⟨d, rfl, _⟩ := dep hd
 rw [laws_toDefS.t_eq]
 dsimp only [laws_toDefS.m]
 refine Tells.eq (tt (by simp; omega) ?_)
 have := loopFill (laws_toDefS.S0 d) l id (List.replicate (Int.toNat (l.length : Int)) (ByteArray.empty, ([] : List (ByteArray × Int × Bool)), ([] : List (Int × Bool)), ([] : List (ByteArray × Bool × (List (Int × Bool)))))) (by simp) (by omega) (fun L st h => ?_) fun L st i Q hi h ih => ?_
 ·simpa using this
 ·dsimp only [laws_toDefS.S0, laws_toDefS.s0]
  exact tn (by omega) (tl rfl)
 ·dsimp only [laws_toDefS.S0, laws_toDefS.s0]
  refine tp (by omega) (ti hi ?_)
  rw [getD_in hi, wrap_succ (by omega)]
  refine tc (laws_toDef.sp (by omega) (hx _ (List.getElem_mem hi))) (ti (by omega) ?_)
  simpa [show i < st.length by omega] using ih
def defAt (s : List Df) (t : Int) : Df := List.getD s (Int.toNat t) (ByteArray.empty, [], [], [])
def thereM (s : List Df) (t i : Int) : Bool := decide (firstM s = -1) && (inB t 0 ((s.length : Int) - 1) && inB i (-1) (((defAt s t).2.2.2.length : Int) - 1))
theorem defAt_mem {s : List Df} {t : Int} (h0 : 0 ≤ t) (h1 : t < s.length) : defAt s t ∈ s := at_mem h0 h1
theorem tand {a b : Int} {α : Type} {x y : Option α} {Q : α → Prop} (h0 : 0 ≤ a) (h1 : a < b) (k : Tells x Q) : Tells (bif decide (0 ≤ a) && decide (a < b) then x else y) Q :=
 tt (by rw [decide_eq_true h0, decide_eq_true h1]; rfl) k
theorem impl_hasIndex.sp {d : Nat} (hd : 7 ≤ d) {s : List Df} (hl : s.length ≤ 140737488351232) (hx : ∀ x ∈ s, dfFit 140737488351232 x) (t i : Int) : impl_hasIndex.f d (s, t, i) = some (thereM s t i) := by
 obtain ⟨d, rfl, _⟩ := dep hd
 rw [impl_hasIndex.t_eq]
 dsimp only [impl_hasIndex.m]
 refine Tells.eq (tc (impl_FirstBad.sp (by omega) hl hx) (teq (fun e => ?_) fun e => ?_))
 ·rw [wrap_id (by omega) (by omega)]
  refine tc (impl_in.sp (by omega) _ _ _) (tbif (fun c => ?_) fun c => tl ?_)
  ·have q := inB_iff.1 c
   have m := hx _ (defAt_mem (s := s) (t := t) (by omega) (by omega))
   refine tand (by omega) (by omega) ?_
   have w : IntKind.wrap IntKind.i64 (((defAt s t).2.2.2.length : Int) - 1) = ((defAt s t).2.2.2.length : Int) - 1 := wrap_id (by omega) (by have := m.2.2.2.1; omega)
   have r := impl_in.sp (d := d) (by omega) i (-1) (((defAt s t).2.2.2.length : Int) - 1)
   rw [← w] at r
   refine tc r (tl ?_)
   rw [w]; unfold thereM; rw [decide_eq_true e, c]; rfl
  ·unfold thereM; rw [c]; simp
 ·refine tl ?_
  unfold thereM; rw [decide_eq_false e]; rfl
theorem spec_l11There.sp {d : Nat} (hd : 8 ≤ d) {s : List Df} (hl : s.length ≤ 140737488351232) (hx : ∀ x ∈ s, dfFit 140737488351232 x) (t i : Int) : spec_l11There.f d (s, t, i) = some (thereM s t i) := by
 obtain ⟨d, rfl, _⟩ := dep hd
 rw [spec_l11There.t_eq]
 dsimp only [spec_l11There.m]
 refine Tells.eq (tc (spec_FirstBad.sp (by omega) hl hx) (teq (fun e => ?_) fun e => ?_))
 ·rw [wrap_id (by omega) (by omega)]
  refine tc (spec_l1In.sp (by omega) _ _ _) (tbif (fun c => ?_) fun c => tl ?_)
  ·have q := inB_iff.1 c
   have m := hx _ (defAt_mem (s := s) (t := t) (by omega) (by omega))
   refine tand (by omega) (by omega) ?_
   have w : IntKind.wrap IntKind.i64 (((defAt s t).2.2.2.length : Int) - 1) = ((defAt s t).2.2.2.length : Int) - 1 := wrap_id (by omega) (by have := m.2.2.2.1; omega)
   have r := spec_l1In.sp (d := d) (by omega) i (-1) (((defAt s t).2.2.2.length : Int) - 1)
   rw [← w] at r
   refine tc r (tl ?_)
   rw [w]; unfold thereM; rw [decide_eq_true e, c]; rfl
  ·unfold thereM; rw [c]; simp
 ·refine tl ?_
  unfold thereM; rw [decide_eq_false e]; rfl
def headM (s : List Df) (t i : Int) : List Int := bif thereM s t i then [IntKind.wrap .u8 (IntKind.wrap .i64 (t + 1)), IntKind.wrap .u8 (IntKind.wrap .i64 (i + 1))] else []
theorem headM_len (s : List Df) (t i : Int) : (headM s t i).length ≤ 2 := by
 unfold headM; cases thereM s t i <;> simp
theorem impl_HeadOf.sp {d : Nat} (hd : 8 ≤ d) {s : List Df} (hl : s.length ≤ 140737488351232) (hx : ∀ x ∈ s, dfFit 140737488351232 x) (t i : Int) : impl_HeadOf.f d (s, t, i) = some (headM s t i) := by
 obtain ⟨d, rfl, _⟩ := dep hd
 rw [impl_HeadOf.t_eq]
 dsimp only [impl_HeadOf.m]
 refine Tells.eq (tc (impl_hasIndex.sp (by omega) hl hx t i) ?_)
 unfold headM
 cases thereM s t i
 ·exact tt rfl (tl rfl)
 ·exact tf rfl (tl rfl)
theorem spec_HeadOf.sp {d : Nat} (hd : 9 ≤ d) {s : List Df} (hl : s.length ≤ 140737488351232) (hx : ∀ x ∈ s, dfFit 140737488351232 x) (t i : Int) : spec_HeadOf.f d (s, t, i) = some (headM s t i) := by
 obtain ⟨d, rfl, _⟩ := dep hd
 rw [spec_HeadOf.t_eq]
 dsimp only [spec_HeadOf.m]
 refine Tells.eq (tc (spec_l11There.sp (by omega) hl hx t i) ?_)
 unfold headM
 cases thereM s t i
 ·exact tt rfl (tl rfl)
 ·exact tf rfl (tl rfl)
theorem dfs_mark {l : List Df} {n : Int} (h : (l.length : Int) + wSum dfW l ≤ 1048576 - n) (hn : 0 ≤ n) : wSum wD l ≤ 10000000 := by
 have : ∀ l : List Df, wSum wD l ≤ l.length + 4 * wSum dfW l := fun l => by
  induction l with
  | nil => simp [wSum]
  | cons x r ih => have := wD_le x; rw [wSum_cons, wSum_cons, List.length_cons]; omega
 have := this l
 omega
theorem laws_FnExactHeadOf.pure {d : Nat} (hd : 10 ≤ d) {s : List Df} {t i : Int} (h1 : okV (.row SDf) s) (_ : okV (.int .i64) t) (_ : okV (.int .i64) i) : laws_FnExactHeadOf.f d (s, t, i) = some true := by
 obtain ⟨d, rfl, _⟩ := dep hd
 rw [laws_FnExactHeadOf.t_eq]
 dsimp only [laws_FnExactHeadOf.m]
 obtain ⟨hl, hx⟩ := dfs_fit h1
 refine Tells.eq (tb (laws_szDefS.sp (by omega) (by omega) (by omega) hl hx) fun r hr => tif (fun _ => tl rfl) fun h => ?_)
 have sm := hr.2 (by omega)
 have fit := dfs_small sm (by omega)
 have wd := dfs_mark sm (by omega)
 have td := laws_toDefS.sp (d := d) (by omega) fit.1 fit.2
 have rs := spec_HeadOf.sp (d := d) (by omega) hl hx t i
 have ri := impl_HeadOf.sp (d := d) (by omega) hl hx t i
 have len := headM_len s t i
 have eq := laws_eqByteS.self (d := d) (by omega) (l := headM s t i) (by omega)
 refine tc td (tc rs (tc td (tc ri (tc eq (tf rfl ?_)))))
 refine tc td (tc (laws_eqDefS.self (by omega) hl hx) (tf rfl ?_))
 obtain ⟨e, rfl⟩ : ∃ e, d = e + 2 := ⟨d - 2, by omega⟩
 refine tb (laws_markDefS.sp (d := e) (by omega) (by omega) hl (by omega)) fun r9 h9 => tn (by have := h9.1; omega) ?_
 refine tc eq (tf rfl ?_)
 refine tb (laws_markByteS.held (d := e + 2) (d2 := e + 2) (by omega) (by omega) (by omega) (by omega) (by omega)) fun r11 h11 => ?_
 refine tc h11.2 (tn (by omega) (tf (by simp) ?_))
 exact tc td (tc ri (tc eq (tf rfl (tc h11.2 (tn (by omega) (tf (by simp) (tl rfl)))))))
end Go.PV.T
