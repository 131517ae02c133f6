import Derived.Test.YtipehkeabnfngaaDoorZDSKitB
namespace Go.Proofs.YtipehkeabnfngaaDoor.KitE
open Go.RowKit Go.Proofs.YtipehkeabnfngaaDoorW.PrintWords Go.Proofs.YtipehkeabnfngaaDoorW.PrintMore Go.Proofs.YtipehkeabnfngaaDoor.Kit Go.Proofs.YtipehkeabnfngaaDoor.KitB
def EvP {α : Type} (g : Nat → Option α) (P : α → Prop) : Prop := ∃ r, Ev g r ∧ P r
theorem EvP.some_ {α : Type} {P : α → Prop} {a : α} (h : P a) : EvP (fun _ => some a) P := ⟨a, ev_some rfl, h⟩
theorem EvP.ev {α : Type} {P : α → Prop} {g : Nat → Option α} {a : α} (h : Ev g a) (hp : P a) : EvP g P := ⟨a, h, hp⟩
theorem EvP.step {α : Type} {P : α → Prop} {f g : Nat → Option α} (h : ∀ k, f (k + 1) = g k) (e : EvP g P) : EvP f P := ⟨e.choose, Ev.step h e.choose_spec.1, e.choose_spec.2⟩
theorem EvP.ite {α : Type} {P : α → Prop} {c : Prop} [Decidable c] {a b : Nat → Option α} (h1 : c → EvP a P) (h2 : ¬ c → EvP b P) : EvP (fun k => if c then a k else b k) P := by
  by_cases h : c
  · obtain ⟨r, hr, hp⟩ := h1 h
    exact ⟨r, ev_pos h hr, hp⟩
  · obtain ⟨r, hr, hp⟩ := h2 h
    exact ⟨r, ev_neg h hr, hp⟩
theorem EvP.pos {α : Type} {P : α → Prop} {c : Prop} [Decidable c] {a b : Nat → Option α} (h : c) (e : EvP a P) : EvP (fun k => if c then a k else b k) P := EvP.ite (fun _ => e) (fun n => absurd h n)
theorem EvP.neg {α : Type} {P : α → Prop} {c : Prop} [Decidable c] {a b : Nat → Option α} (h : ¬ c) (e : EvP b P) : EvP (fun k => if c then a k else b k) P := EvP.ite (fun n => absurd n h) (fun _ => e)
theorem EvP.bind {α β : Type} {P : α → Prop} {Q : β → Prop} {g : Nat → Option α} {f : Nat → α → Option β} (e : EvP g P) (h : ∀ a, P a → EvP (fun k => f k a) Q) : EvP (fun k => (g k).bind (f k)) Q := by
  obtain ⟨r, hr, hp⟩ := e
  obtain ⟨s, hs, hq⟩ := h r hp
  exact ⟨s, Ev.bind hr hs, hq⟩
theorem EvP.mono {α : Type} {P Q : α → Prop} {g : Nat → Option α} (e : EvP g P) (h : ∀ a, P a → Q a) : EvP g Q := ⟨e.choose, e.choose_spec.1, h _ e.choose_spec.2⟩
theorem EvP.list {α β σ : Type} {P : α → Prop} (L : Nat → σ → Int → Option α) (l : List β) (I : σ → Nat → Prop)
    (base : ∀ s, I s l.length → EvP (fun k => L k s (l.length : Int)) P)
    (step : ∀ s i x, I s i → i < l.length → l[i]? = some x → (∀ s', I s' (i + 1) → EvP (fun k => L k s' ((i + 1 : Nat) : Int)) P) → EvP (fun k => L k s (i : Int)) P) :
    ∀ (d i : Nat) (s : σ), i + d = l.length → I s i → EvP (fun k => L k s (i : Int)) P := by
  intro d
  induction d with
  | zero =>
    intro i s h hI
    have e : i = l.length := by omega
    subst e
    exact base s hI
  | succ d ih =>
    intro i s h hI
    have hi : i < l.length := by omega
    exact step s i l[i] hI hi (List.getElem?_eq_getElem hi) (fun s' hI' => ih (i + 1) s' (by omega) hI')
theorem take_snoc {β : Type} {l : List β} {i : Nat} {x : β} (hx : l[i]? = some x) {Q : β → Prop} (h : ∀ y ∈ l.take i, Q y) (hq : Q x) : ∀ y ∈ l.take (i + 1), Q y := by
  intro y hy
  rw [List.take_add_one, hx] at hy
  rcases List.mem_append.1 hy with hy | hy
  · exact h y hy
  · simp only [Option.toList_some, List.mem_singleton] at hy
    rw [hy]; exact hq
end Go.Proofs.YtipehkeabnfngaaDoor.KitE
