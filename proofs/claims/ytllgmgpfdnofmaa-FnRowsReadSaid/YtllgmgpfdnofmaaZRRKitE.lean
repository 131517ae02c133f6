import Derived.Test.YtllgmgpfdnofmaaZRRKitB
namespace Go.Proofs.Ytllgmgpfdnofmaa.KitE
open Go.RowKit Go.Proofs.YtllgmgpfdnofmaaW.PrintWords Go.Proofs.YtllgmgpfdnofmaaW.PrintMore Go.Proofs.Ytllgmgpfdnofmaa.Kit Go.Proofs.Ytllgmgpfdnofmaa.KitB
def EvP {α : Type} (g : Nat → Option α) (P : α → Prop) : Prop := ∃ r, Ev g r ∧ P r
theorem EvP.some_ {α : Type} {P : α → Prop} {a : α} (h : P a) : EvP (fun _ => some a) P := ⟨a, ev_some rfl, h⟩
theorem EvP.ev {α : Type} {P : α → Prop} {g : Nat → Option α} {a : α} (h : Ev g a) (hp : P a) : EvP g P := ⟨a, h, hp⟩
theorem EvP.step {α : Type} {P : α → Prop} {f g : Nat → Option α} (h : ∀ k, f (k + 1) = g k) (e : EvP g P) : EvP f P := ⟨e.choose, Ev.step h e.choose_spec.1, e.choose_spec.2⟩
theorem EvP.ite {α : Type} {P : α → Prop} {c : Prop} [Decidable c] {a b : Nat → Option α} (h1 : c → EvP a P) (h2 : ¬ c → EvP b P) : EvP (fun k => if c then a k else b k) P := by
  by_cases h : c
  · obtain ⟨r, hr, hp⟩ := h1 h
    exact ⟨r, ev_pos h hr, hp⟩
  · obtain ⟨r, hr, hp⟩ := h2 h
    exact ⟨r, ev_neg h hr, hp⟩
theorem EvP.pos {α : Type} {P : α → Prop} {c : Prop} [Decidable c] {a b : Nat → Option α} (h : c) (e : EvP a P) : EvP (fun k => if c then a k else b k) P := EvP.ite (fun _ => e) (fun n => absurd h n)
theorem EvP.neg {α : Type} {P : α → Prop} {c : Prop} [Decidable c] {a b : Nat → Option α} (h : ¬ c) (e : EvP b P) : EvP (fun k => if c then a k else b k) P := EvP.ite (fun n => absurd n h) (fun _ => e)
theorem EvP.bind {α β : Type} {P : α → Prop} {Q : β → Prop} {g : Nat → Option α} {f : Nat → α → Option β} (e : EvP g P) (h : ∀ a, P a → EvP (fun k => f k a) Q) : EvP (fun k => (g k).bind (f k)) Q := by
  obtain ⟨r, hr, hp⟩ := e
  obtain ⟨s, hs, hq⟩ := h r hp
  exact ⟨s, Ev.bind hr hs, hq⟩
theorem EvP.mono {α : Type} {P Q : α → Prop} {g : Nat → Option α} (e : EvP g P) (h : ∀ a, P a → Q a) : EvP g Q := ⟨e.choose, e.choose_spec.1, h _ e.choose_spec.2⟩
theorem and_le_nat (x : Int) (n : Nat) (hn : n < 2 ^ 62) : 0 ≤ Go.bits .and .i64 x (n : Int) ∧ Go.bits .and .i64 x (n : Int) ≤ n := by
  have e : (BitVec.ofInt IntKind.i64.bits ((n : Nat) : Int)).toNat = n := by
    rw [BitVec.ofInt_natCast, BitVec.toNat_ofNat]
    exact Nat.mod_eq_of_lt (Nat.lt_of_lt_of_le hn (Nat.pow_le_pow_right (by decide) (by decide)))
  have h : (BitVec.ofInt IntKind.i64.bits x &&& BitVec.ofInt IntKind.i64.bits ((n : Nat) : Int)).toNat ≤ n := by
    rw [BitVec.toNat_and, e]
    exact Nat.and_le_right
  have g : Go.bits .and .i64 x (n : Int) = IntKind.i64.wrap ((BitVec.ofInt IntKind.i64.bits x &&& BitVec.ofInt IntKind.i64.bits ((n : Nat) : Int)).toNat : Int) := rfl
  rw [g, IntKind.wrap_i64]
  omega
theorem and255 (x : Int) : 0 ≤ Go.bits .and .i64 x 255 ∧ Go.bits .and .i64 x 255 ≤ 255 := and_le_nat x 255 (by decide)
def inv (b : List Int) (i : Int) : Prop := 0 ≤ i ∧ i ≤ (b.length : Int)
end Go.Proofs.Ytllgmgpfdnofmaa.KitE
