import Derived.Test.YtllgmgpfdnofmaaZNDKit
import Derived.Laws.BitsLemmas
namespace Go.Proofs.Ytllgmgpfdnofmaa.KitB
open Go.RowKit Go.Proofs.YtllgmgpfdnofmaaW.PrintWords Go.Proofs.YtllgmgpfdnofmaaW.PrintMore Go.Proofs.Ytllgmgpfdnofmaa.Kit
theorem wraps_i64 (n : Int) (h₀ : 0 ≤ n) (h₁ : n < 2 ^ 62) : IntKind.i64.wrap n = n := by rw [IntKind.wrap_i64]; omega
theorem and127 (x : Int) (h₀ : 0 ≤ x) (h₁ : x < 4611686018427387904) : Go.bits .and .i64 x 127 = x % 128 := bits_mask .i64 62 (by decide) wraps_i64 7 (by decide) x h₀ h₁
theorem or128 (x : Int) (h₀ : 0 ≤ x) (h₁ : x < 128) : Go.bits .or .i64 x 128 = x + 128 := by
  obtain ⟨a, rfl⟩ := Int.eq_ofNat_of_zero_le h₀
  have ha : a < 128 := by omega
  have h := (bits_nat .i64 62 (by decide) wraps_i64 a 128 (by omega) (by omega)).2
  have e : (a ||| 128 : Nat) = a + 128 := by
    have h2 := Nat.two_pow_add_eq_or_of_lt (i := 7) (b := a) ha 1
    rw [Nat.mul_one] at h2
    rw [Nat.or_comm, ← show (2 ^ 7 ||| a) = (128 ||| a) from rfl, ← h2]
    omega
  rw [show ((128 : Int)) = ((128 : Nat) : Int) from rfl, h, e]; rfl
def clampU (n : Int) : Int := if n < 0 then 0 else if n > 1000000 then 1000000 else n
theorem clampU_bd (n : Int) : 0 ≤ clampU n ∧ clampU n ≤ 1000000 := by
  by_cases h : n < 0 <;> by_cases h2 : n > 1000000 <;> simp [clampU, h, h2] <;> omega
theorem clampU_mx (n : Int) : mx 0 (mn n 1000000) = clampU n := by
  unfold mx mn clampU
  by_cases h : (1000000 : Int) < n <;> by_cases h0 : (0 : Int) < n <;> by_cases h1 : n < 0 <;> simp [h, h0, h1] <;> omega
def groups (n : Int) : List Int := if n > 127 then (if n / 128 > 127 then [n % 128 + 128, n / 128 % 128 + 128, n / 16384] else [n % 128 + 128, n / 128]) else [n]
def uM (n : Int) : List Int := groups (clampU n)
theorem groups_len (n : Int) : 1 ≤ (groups n).length ∧ (groups n).length ≤ 3 := by unfold groups; by_cases h : n > 127 <;> by_cases h2 : n / 128 > 127 <;> simp [h, h2]
theorem uM_len (n : Int) : 1 ≤ (uM n).length ∧ (uM n).length ≤ 3 := groups_len _
theorem ev_groups (L : Nat → List Int → Int → Option (List Int))
    (more : ∀ s n r, s.length < 140737488355320 → 127 < n → n ≤ 1000000 → Ev (fun k => L k (s ++ [n % 128 + 128]) (n / 128)) r → Ev (fun k => L k s n) r)
    (last : ∀ s n, s.length < 140737488355320 → 0 ≤ n → n ≤ 127 → Ev (fun k => L k s n) (s ++ [n]))
    (s : List Int) (n : Int) (hs : s.length < 140737488355317) (h0 : 0 ≤ n) (h1 : n ≤ 1000000) : Ev (fun k => L k s n) (s ++ groups n) := by
  unfold groups
  by_cases c : n > 127
  · rw [if_pos c]
    by_cases c2 : n / 128 > 127
    · rw [if_pos c2]
      refine more _ _ _ (by omega) c h1 (more _ _ _ (by simp; omega) c2 (by omega) ?_)
      have e : n / 128 / 128 = n / 16384 := by omega
      rw [e]
      refine ev_eq (last _ _ (by simp; omega) (by omega) (by omega)) ?_
      simp
    · rw [if_neg c2]
      refine more _ _ _ (by omega) c h1 (ev_eq (last _ _ (by simp; omega) (by omega) (by omega)) ?_)
      simp
  · rw [if_neg c]
    exact last _ _ (by omega) h0 (by omega)
theorem bytesOf_strOf (l : List Int) (hb : ∀ b ∈ l, 0 ≤ b ∧ b ≤ 255) : bytesOf (strOfNums l) = l := by
  have h : (bytesOf (strOfNums l)) = l.map fun n => ((UInt8.ofNat n.toNat).toNat : Int) := by
    unfold bytesOf
    rw [strOfNums_data, List.map_map]
    rfl
  rw [h]
  have : l.map (fun n => ((UInt8.ofNat n.toNat).toNat : Int)) = l.map id := by
    apply List.map_congr_left
    intro n hn
    have := hb n hn
    simp only [id, UInt8.toNat_ofNat']
    omega
  rw [this, List.map_id]
theorem groups_bytes (n : Int) (h0 : 0 ≤ n) (h1 : n ≤ 1000000) : ∀ b ∈ groups n, 0 ≤ b ∧ b ≤ 255 := by
  intro b hb
  unfold groups at hb
  by_cases c : n > 127
  · rw [if_pos c] at hb
    by_cases c2 : n / 128 > 127
    · rw [if_pos c2] at hb
      simp only [List.mem_cons, List.not_mem_nil, or_false] at hb
      omega
    · rw [if_neg c2] at hb
      simp only [List.mem_cons, List.not_mem_nil, or_false] at hb
      omega
  · rw [if_neg c] at hb
    simp only [List.mem_cons, List.not_mem_nil, or_false] at hb
    omega
theorem uM_bytes (n : Int) : ∀ b ∈ uM n, 0 ≤ b ∧ b ≤ 255 := groups_bytes _ (clampU_bd n).1 (clampU_bd n).2
theorem app_bytes {a b : List Int} (ha : ∀ x ∈ a, 0 ≤ x ∧ x ≤ 255) (hb : ∀ x ∈ b, 0 ≤ x ∧ x ≤ 255) : ∀ x ∈ a ++ b, 0 ≤ x ∧ x ≤ 255 := fun x hx => (List.mem_append.1 hx).elim (ha x) (hb x)
theorem bytesOf_bytes (s : ByteArray) : ∀ x ∈ bytesOf s, 0 ≤ x ∧ x ≤ 255 := by
  intro x hx
  unfold bytesOf at hx
  obtain ⟨b, _, rfl⟩ := List.mem_map.1 hx
  have := b.toNat_lt
  omega
theorem ev_flat {α β : Type} (L : Nat → List Int → Int → Option α) (l : List β) (f : β → List Int) (F : List Int → α) (B : Nat)
    (base : ∀ s, s.length ≤ B → Ev (fun k => L k s (l.length : Int)) (F s))
    (step : ∀ s i x r, s.length + (f x).length ≤ B → i < l.length → l[i]? = some x → Ev (fun k => L k (s ++ f x) ((i + 1 : Nat) : Int)) r → Ev (fun k => L k s (i : Int)) r)
    (s : List Int) (hs : s.length + (l.map fun x => (f x).length).sum ≤ B) : Ev (fun k => L k s 0) (F (s ++ l.flatMap f)) := by
  refine ev_listI0 L l (fun s i => s.length + ((l.drop i).map fun x => (f x).length).sum ≤ B) (fun s _ r => F (s ++ r.flatMap f)) s (by simpa using hs) ?_ ?_
  · intro s hI
    simpa using base s (by simpa using hI)
  · intro s i x r hI hi hx hd ih
    rw [hd, List.map_cons, List.sum_cons] at hI
    have hd1 : l.drop (i + 1) = r := by rw [← List.tail_drop, hd]; rfl
    have h := ih (s ++ f x) (by rw [hd1, List.length_append]; omega)
    refine step s i x _ (by omega) hi hx (ev_eq h ?_)
    simp
theorem flatMap_len {β : Type} (l : List β) (f : β → List Int) : (l.flatMap f).length = (l.map fun x => (f x).length).sum := by
  induction l with
  | nil => rfl
  | cons x r ih => rw [List.flatMap_cons, List.length_append, ih, List.map_cons, List.sum_cons]
theorem sum_le3 {β : Type} (l : List β) (f : β → List Int) (g : β → Nat) (h : ∀ x, (f x).length ≤ 3 + g x) : (l.map fun x => (f x).length).sum ≤ 3 * l.length + (l.map g).sum := by
  induction l with
  | nil => simp
  | cons x r ih =>
    have := h x
    simp only [List.map_cons, List.sum_cons, List.length_cons]
    omega
theorem sum_uM (ids : List Int) : (ids.map fun x => (uM x).length).sum ≤ 3 * ids.length := by
  induction ids with
  | nil => simp
  | cons x r ih =>
    have := uM_len x
    simp only [List.map_cons, List.sum_cons, List.length_cons]
    omega
def txtM (s : ByteArray) : List Int := uM s.size ++ bytesOf s
theorem txtM_len (s : ByteArray) : (txtM s).length ≤ 3 + s.size := by
  have := uM_len s.size
  unfold txtM
  rw [List.length_append, bytesOf_length]
  omega
def nodeB (b : Bool) (ks vs : List ByteArray) (ids : List Int) : List Int :=
  let h := uM (if b = true then 1 else 0) ++ uM ks.length ++ ks.flatMap txtM
  if b = true then h ++ vs.flatMap txtM else h ++ ids.flatMap uM
theorem nodeB_len (b : Bool) (ks vs : List ByteArray) (ids : List Int) : (nodeB b ks vs ids).length ≤ 6 + (3 * ks.length + (ks.map ByteArray.size).sum) + (3 * vs.length + (vs.map ByteArray.size).sum) + 3 * ids.length := by
  have h1 := uM_len (if b = true then 1 else 0)
  have h2 := uM_len ks.length
  have h3 := sum_le3 ks txtM ByteArray.size txtM_len
  have h4 := sum_le3 vs txtM ByteArray.size txtM_len
  have h5 := sum_uM ids
  unfold nodeB
  by_cases c : b = true
  · simp only [if_pos c] at h1 ⊢
    simp only [List.length_append, flatMap_len]
    omega
  · simp only [if_neg c] at h1 ⊢
    simp only [List.length_append, flatMap_len]
    omega
def risingM : Option ByteArray → List ByteArray → Bool
  | _, [] => true
  | p, x :: r => if (x.size : Int) > 48 then false else match p with
    | none => risingM (some x) r
    | some y => if Op.bytesLess y.toList x.toList = true then risingM (some x) r else false
def nodeOkM (b : Bool) (ks vs : List ByteArray) (ids : List Int) : Bool :=
  risingM none ks && decide (((nodeB b ks vs ids).length : Int) ≤ 240) &&
    (if b = true then vs.all (fun v => decide ((v.size : Int) ≤ 60)) && decide (1 ≤ ks.length) && decide (vs.length = ks.length) && decide (ids.length = 0)
     else ids.all (fun n => inB n 2 47) && decide (1 ≤ ids.length) && decide (ks.length + 1 = ids.length) && decide (vs.length = 0))
end Go.Proofs.Ytllgmgpfdnofmaa.KitB
