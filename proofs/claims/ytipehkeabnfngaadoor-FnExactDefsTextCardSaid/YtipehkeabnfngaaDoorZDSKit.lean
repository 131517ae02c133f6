import Derived.Test.YtipehkeabnfngaaDoorZDSWWords
import Derived.Test.YtipehkeabnfngaaDoorZDSWMore
namespace Go.Proofs.YtipehkeabnfngaaDoor.Kit
open Go.RowKit Go.Proofs.YtipehkeabnfngaaDoorW.PrintWords Go.Proofs.YtipehkeabnfngaaDoorW.PrintLast Go.Proofs.YtipehkeabnfngaaDoorW.PrintMore
theorem ev_c {α : Type} {x : Option α} {r : α} (h : x = some r) : Ev (fun _ => x) r := ⟨0, fun _ _ => h⟩
theorem ev_some {α : Type} {a r : α} (h : a = r) : Ev (fun _ => some a) r := ⟨0, fun _ _ => by rw [h]⟩
theorem ev_ite {α : Type} {c : Prop} [Decidable c] {a b : Nat → Option α} {r : α} (h1 : c → Ev a r) (h2 : ¬ c → Ev b r) : Ev (fun k => if c then a k else b k) r := by
  by_cases h : c
  · obtain ⟨K, hK⟩ := h1 h
    exact ⟨K, fun k hk => by show (if c then a k else b k) = some r; rw [if_pos h]; exact hK k hk⟩
  · obtain ⟨K, hK⟩ := h2 h
    exact ⟨K, fun k hk => by show (if c then a k else b k) = some r; rw [if_neg h]; exact hK k hk⟩
theorem ev_pos {α : Type} {c : Prop} [Decidable c] {a b : Nat → Option α} {r : α} (h : c) (e : Ev a r) : Ev (fun k => if c then a k else b k) r := ev_ite (fun _ => e) (fun n => absurd h n)
theorem ev_neg {α : Type} {c : Prop} [Decidable c] {a b : Nat → Option α} {r : α} (h : ¬ c) (e : Ev b r) : Ev (fun k => if c then a k else b k) r := ev_ite (fun n => absurd n h) (fun _ => e)
theorem ev_eq {α : Type} {g : Nat → Option α} {a b : α} (h : Ev g a) (e : a = b) : Ev g b := e ▸ h
theorem wrap_id {x : Int} (h0 : -9223372036854775808 ≤ x) (h1 : x ≤ 9223372036854775807) : wrap64 x = x := by unfold wrap64; omega
theorem wrap_succ {i : Nat} (h : i < 9223372036854775807) : wrap64 ((i : Int) + 1) = ((i + 1 : Nat) : Int) := by unfold wrap64; omega
theorem getD_at {α : Type} {l : List α} {i : Nat} {x z : α} (h : l[i]? = some x) : l.getD ((i : Int).toNat) z = x := by
  rw [Int.toNat_natCast, List.getD_eq_getElem?_getD, h]; rfl
theorem bt_at' {s : ByteArray} {i : Nat} {x : Int} (h : (bytesOf s)[i]? = some x) : bt s (i : Int) = x := by rw [← rd_bytesOf]; exact getD_at h
theorem size_len (s : ByteArray) : (s.size : Int) = ((bytesOf s).length : Int) := by rw [bytesOf_length]
theorem ev_listI {α β σ : Type} (L : Nat → σ → Int → Option α) (l : List β) (I : σ → Nat → Prop) (M : σ → Nat → List β → α)
    (base : ∀ s, I s l.length → Ev (fun k => L k s (l.length : Int)) (M s l.length []))
    (step : ∀ s i x r, I s i → i < l.length → l[i]? = some x → l.drop i = x :: r → (∀ s', I s' (i + 1) → Ev (fun k => L k s' ((i + 1 : Nat) : Int)) (M s' (i + 1) r)) → Ev (fun k => L k s (i : Int)) (M s i (x :: r))) :
    ∀ (d i : Nat) (s : σ), i + d = l.length → I s i → Ev (fun k => L k s (i : Int)) (M s i (l.drop i)) := by
  intro d
  induction d with
  | zero =>
    intro i s h hI
    have e : i = l.length := by omega
    subst e
    rw [List.drop_length]
    exact base s hI
  | succ d ih =>
    intro i s h hI
    have hi : i < l.length := by omega
    have hd := List.drop_eq_getElem_cons hi
    rw [hd]
    exact step s i l[i] (l.drop (i + 1)) hI hi (List.getElem?_eq_getElem hi) hd (fun s' hI' => ih (i + 1) s' (by omega) hI')
theorem ev_listI0 {α β σ : Type} (L : Nat → σ → Int → Option α) (l : List β) (I : σ → Nat → Prop) (M : σ → Nat → List β → α) (s : σ) (h0 : I s 0)
    (base : ∀ s, I s l.length → Ev (fun k => L k s (l.length : Int)) (M s l.length []))
    (step : ∀ s i x r, I s i → i < l.length → l[i]? = some x → l.drop i = x :: r → (∀ s', I s' (i + 1) → Ev (fun k => L k s' ((i + 1 : Nat) : Int)) (M s' (i + 1) r)) → Ev (fun k => L k s (i : Int)) (M s i (x :: r))) :
    Ev (fun k => L k s 0) (M s 0 l) := ev_listI L l I M base step l.length 0 s (by omega) h0
theorem ev_list0 {α β : Type} (L : Nat → Int → Option α) (l : List β) (M : Nat → List β → α)
    (base : Ev (fun k => L k (l.length : Int)) (M l.length []))
    (step : ∀ i x r, i < l.length → l[i]? = some x → l.drop i = x :: r → Ev (fun k => L k ((i + 1 : Nat) : Int)) (M (i + 1) r) → Ev (fun k => L k (i : Int)) (M i (x :: r))) :
    Ev (fun k => L k 0) (M 0 l) :=
  ev_listI0 (σ := Unit) (fun k _ i => L k i) l (fun _ _ => True) (fun _ i r => M i r) () trivial (fun _ _ => base) (fun _ i x r _ hi hx hd ih => step i x r hi hx hd (ih () trivial))
theorem ev_fill {α β : Type} (L : Nat → List β → Int → Option (List β)) (l : List α) (f : α → β)
    (base : ∀ s, s.length = l.length → Ev (fun k => L k s (l.length : Int)) s)
    (step : ∀ s i x r, s.length = l.length → i < l.length → l[i]? = some x → Ev (fun k => L k (s.set i (f x)) ((i + 1 : Nat) : Int)) r → Ev (fun k => L k s (i : Int)) r)
    (s : List β) (hs : s.length = l.length) : Ev (fun k => L k s 0) (l.map f) := by
  have h := ev_listI0 L l (fun s _ => s.length = l.length) (fun s i r => s.take i ++ r.map f) s hs
    (fun s hI => by
      have := base s hI
      rw [← hI, List.take_length, List.map_nil, List.append_nil, hI]
      exact this)
    (fun s i x r hI hi hx hd ih => by
      refine step s i x _ hI hi hx ?_
      have := ih (s.set i (f x)) (by rw [List.length_set]; exact hI)
      have e : (s.set i (f x)).take (i + 1) ++ r.map f = s.take i ++ (x :: r).map f := by
        rw [List.take_add_one, List.take_set_of_le (Nat.le_refl i), List.getElem?_set_self (by omega)]
        simp
      rw [← e]
      exact this)
  simpa using h
theorem ev_pass {α β : Type} (L : Nat → Int → Option α) (l : List β) (r : α)
    (base : Ev (fun k => L k (l.length : Int)) r)
    (step : ∀ i x, i < l.length → l[i]? = some x → Ev (fun k => L k ((i + 1 : Nat) : Int)) r → Ev (fun k => L k (i : Int)) r) :
    Ev (fun k => L k 0) r := ev_list0 L l (fun _ _ => r) base (fun i x _ hi hx _ ih => step i x hi hx ih)
theorem ev_all {β : Type} (L : Nat → Int → Option Bool) (l : List β) (p : β → Bool) (e : Bool)
    (base : Ev (fun k => L k (l.length : Int)) e)
    (step : ∀ i x r, i < l.length → l[i]? = some x → Ev (fun k => L k ((i + 1 : Nat) : Int)) r → Ev (fun k => L k (i : Int)) (if p x = true then r else false)) :
    Ev (fun k => L k 0) (if l.all p = true then e else false) := by
  refine ev_eq (ev_list0 L l (fun _ r => if r.all p = true then e else false) (by simpa using base) (fun i x r hi hx _ ih => ?_)) rfl
  refine ev_eq (step i x _ hi hx ih) ?_
  simp only [List.all_cons, Bool.and_eq_true]
  by_cases h : p x = true <;> simp [h]
def inB (a lo hi : Int) : Bool := if a ≥ lo then decide (a ≤ hi) else false
theorem inB_iff {a lo hi : Int} : inB a lo hi = true ↔ lo ≤ a ∧ a ≤ hi := by
  unfold inB
  by_cases h : a ≥ lo
  · rw [if_pos h]; simp; omega
  · rw [if_neg h]; simp; omega
def nameM (n : Int) : Nat → List Int → Bool
  | _, [] => inB n 1 8
  | i, c :: r => if inB c 97 122 = true then nameM n (i + 1) r else if i = 0 then false else if inB c 48 57 = true then nameM n (i + 1) r else false
def szM (left : Int) (n : Nat) : Int := if left - n < 0 then -1 else left - n
end Go.Proofs.YtipehkeabnfngaaDoor.Kit
