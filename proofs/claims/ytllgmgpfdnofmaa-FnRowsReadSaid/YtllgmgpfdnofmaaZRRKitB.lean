import Derived.Test.YtllgmgpfdnofmaaZRRKit
import Derived.Laws.BitsLemmas
namespace Go.Proofs.Ytllgmgpfdnofmaa.KitB
open Go.RowKit Go.Proofs.YtllgmgpfdnofmaaW.PrintWords Go.Proofs.YtllgmgpfdnofmaaW.PrintMore Go.Proofs.Ytllgmgpfdnofmaa.Kit
theorem wraps_i64 (n : Int) (h₀ : 0 ≤ n) (h₁ : n < 2 ^ 62) : IntKind.i64.wrap n = n := by rw [IntKind.wrap_i64]; omega
theorem wraps_u32 (n : Int) (h₀ : 0 ≤ n) (h₁ : n < 2 ^ 32) : IntKind.u32.wrap n = n := by rw [IntKind.wrap_u32]; omega
theorem and127 (x : Int) (h₀ : 0 ≤ x) (h₁ : x < 4611686018427387904) : Go.bits .and .i64 x 127 = x % 128 := bits_mask .i64 62 (by decide) wraps_i64 7 (by decide) x h₀ h₁
theorem or128 (x : Int) (h₀ : 0 ≤ x) (h₁ : x < 128) : Go.bits .or .i64 x 128 = x + 128 := by
  obtain ⟨a, rfl⟩ := Int.eq_ofNat_of_zero_le h₀
  have ha : a < 128 := by omega
  have h := (bits_nat .i64 62 (by decide) wraps_i64 a 128 (by omega) (by omega)).2
  have e : (a ||| 128 : Nat) = a + 128 := by
    have h2 := Nat.two_pow_add_eq_or_of_lt (i := 7) (b := a) ha 1
    rw [Nat.mul_one] at h2
    rw [Nat.or_comm, ← show (2 ^ 7 ||| a) = (128 ||| a) from rfl, ← h2]
    omega
  rw [show ((128 : Int)) = ((128 : Nat) : Int) from rfl, h, e]; rfl
def clampU (n : Int) : Int := if n < 0 then 0 else if n > 1000000 then 1000000 else n
theorem clampU_bd (n : Int) : 0 ≤ clampU n ∧ clampU n ≤ 1000000 := by
  by_cases h : n < 0 <;> by_cases h2 : n > 1000000 <;> simp [clampU, h, h2] <;> omega
theorem clampU_mx (n : Int) : mx 0 (mn n 1000000) = clampU n := by
  unfold mx mn clampU
  by_cases h : (1000000 : Int) < n <;> by_cases h0 : (0 : Int) < n <;> by_cases h1 : n < 0 <;> simp [h, h0, h1] <;> omega
def groups (n : Int) : List Int := if n > 127 then (if n / 128 > 127 then [n % 128 + 128, n / 128 % 128 + 128, n / 16384] else [n % 128 + 128, n / 128]) else [n]
def uM (n : Int) : List Int := groups (clampU n)
theorem groups_len (n : Int) : 1 ≤ (groups n).length ∧ (groups n).length ≤ 3 := by unfold groups; by_cases h : n > 127 <;> by_cases h2 : n / 128 > 127 <;> simp [h, h2]
theorem uM_len (n : Int) : 1 ≤ (uM n).length ∧ (uM n).length ≤ 3 := groups_len _
theorem ev_groups (L : Nat → List Int → Int → Option (List Int))
    (more : ∀ s n r, s.length < 140737488355320 → 127 < n → n ≤ 1000000 → Ev (fun k => L k (s ++ [n % 128 + 128]) (n / 128)) r → Ev (fun k => L k s n) r)
    (last : ∀ s n, s.length < 140737488355320 → 0 ≤ n → n ≤ 127 → Ev (fun k => L k s n) (s ++ [n]))
    (s : List Int) (n : Int) (hs : s.length < 140737488355317) (h0 : 0 ≤ n) (h1 : n ≤ 1000000) : Ev (fun k => L k s n) (s ++ groups n) := by
  unfold groups
  by_cases c : n > 127
  · rw [if_pos c]
    by_cases c2 : n / 128 > 127
    · rw [if_pos c2]
      refine more _ _ _ (by omega) c h1 (more _ _ _ (by simp; omega) c2 (by omega) ?_)
      have e : n / 128 / 128 = n / 16384 := by omega
      rw [e]
      refine ev_eq (last _ _ (by simp; omega) (by omega) (by omega)) ?_
      simp
    · rw [if_neg c2]
      refine more _ _ _ (by omega) c h1 (ev_eq (last _ _ (by simp; omega) (by omega) (by omega)) ?_)
      simp
  · rw [if_neg c]
    exact last _ _ (by omega) h0 (by omega)
def crcStep (x : Nat) : Nat := if x % 2 = 1 then (x / 2) ^^^ 2197175160 else x / 2
def crcN : Nat → Nat → Nat
  | 0, x => x
  | n + 1, x => crcN n (crcStep x)
def crcByte (x : Nat) (b : Int) : Nat := crcN 8 (x ^^^ b.toNat)
def crcFold (x : Nat) (l : List Int) : Nat := l.foldl crcByte x
def crcM (l : List Int) : Int := ((crcFold 4294967295 l ^^^ 4294967295 : Nat) : Int)
theorem crcStep_lt {x : Nat} (h : x < 2 ^ 32) : crcStep x < 2 ^ 32 := by
  unfold crcStep
  split
  · exact Nat.xor_lt_two_pow (by omega) (by decide)
  · omega
theorem crcN_lt : ∀ (n x : Nat), x < 2 ^ 32 → crcN n x < 2 ^ 32
  | 0, _, h => h
  | n + 1, _, h => crcN_lt n _ (crcStep_lt h)
theorem crcByte_lt {x : Nat} (h : x < 2 ^ 32) {b : Int} (hb : b ≤ 255) : crcByte x b < 2 ^ 32 := crcN_lt 8 _ (Nat.xor_lt_two_pow h (by omega))
theorem crcFold_lt : ∀ (l : List Int) (x : Nat), x < 2 ^ 32 → (∀ b ∈ l, b ≤ 255) → crcFold x l < 2 ^ 32
  | [], _, h, _ => h
  | b :: r, _, h, hl => crcFold_lt r _ (crcByte_lt h (hl b List.mem_cons_self)) (fun c hc => hl c (List.mem_cons_of_mem _ hc))
theorem crcM_bd (l : List Int) (hl : ∀ b ∈ l, b ≤ 255) : 0 ≤ crcM l ∧ crcM l < 4294967296 := by
  have h := crcFold_lt l 4294967295 (by decide) hl
  have h2 : (crcFold 4294967295 l ^^^ 4294967295 : Nat) < 2 ^ 32 := Nat.xor_lt_two_pow h (by decide)
  unfold crcM
  omega
theorem xor_nat (k : IntKind) (j : Nat) (hj : j ≤ k.bits) (hk : ∀ n : Int, 0 ≤ n → n < 2 ^ j → k.wrap n = n) (a b : Nat) (ha : a < 2 ^ j) (hb : b < 2 ^ j) : Go.bits .xor k a b = ((a ^^^ b : Nat) : Int) := by
  have hp : 2 ^ j ≤ 2 ^ k.bits := Nat.pow_le_pow_right (by decide) hj
  have ha' : a % 2 ^ k.bits = a := Nat.mod_eq_of_lt (Nat.lt_of_lt_of_le ha hp)
  have hb' : b % 2 ^ k.bits = b := Nat.mod_eq_of_lt (Nat.lt_of_lt_of_le hb hp)
  simp only [Go.bits, BitVec.ofInt_natCast, BitVec.toNat_xor, BitVec.toNat_ofNat, ha', hb']
  exact hk _ (Int.natCast_nonneg _) (by have := Nat.xor_lt_two_pow ha hb; exact_mod_cast this)
theorem xor_i64 (a b : Nat) (ha : a < 2 ^ 32) (hb : b < 2 ^ 32) : Go.bits .xor .i64 (a : Int) (b : Int) = ((a ^^^ b : Nat) : Int) :=
  xor_nat .i64 62 (by decide) wraps_i64 a b (by omega) (by omega)
theorem xor_u32 (a b : Nat) (ha : a < 2 ^ 32) (hb : b < 2 ^ 32) : Go.bits .xor .u32 (a : Int) (b : Int) = ((a ^^^ b : Nat) : Int) :=
  xor_nat .u32 32 (by decide) wraps_u32 a b ha hb
theorem and1_i64 (a : Nat) (ha : a < 2 ^ 32) : Go.bits .and .i64 (a : Int) 1 = (a : Int) % 2 := bits_mask .i64 62 (by decide) wraps_i64 1 (by decide) _ (by omega) (by omega)
theorem and1_u32 (a : Nat) (ha : a < 2 ^ 32) : Go.bits .and .u32 (a : Int) 1 = (a : Int) % 2 := bits_mask .u32 32 (by decide) wraps_u32 1 (by decide) _ (by omega) (by omega)
theorem ev_eight {α : Type} (L : Nat → Nat → Int → Option α) (r : α)
    (more : ∀ x (i : Nat), x < 2 ^ 32 → i < 8 → Ev (fun k => L k (crcStep x) ((i + 1 : Nat) : Int)) r → Ev (fun k => L k x (i : Int)) r)
    (x : Nat) (hx : x < 2 ^ 32) (last : Ev (fun k => L k (crcN 8 x) 8) r) : Ev (fun k => L k x 0) r := by
  have h : ∀ (d i : Nat) (y : Nat), i + d = 8 → y < 2 ^ 32 → crcN d y = crcN 8 x → Ev (fun k => L k y (i : Int)) r := by
    intro d
    induction d with
    | zero =>
      intro i y hi hy he
      have e : i = 8 := by omega
      subst e
      have he' : y = crcN 8 x := he
      rw [he']
      exact last
    | succ d ih =>
      intro i y hi hy he
      exact more y i hy (by omega) (ih (i + 1) (crcStep y) (by omega) (crcStep_lt hy) he)
  exact h 8 0 x (by omega) hx rfl
def sum4 (c : Int) : List Int := [c / 16777216 % 256, c / 65536 % 256, c / 256 % 256, c % 256]
theorem sum4_bytes (c : Int) : ∀ b ∈ sum4 c, 0 ≤ b ∧ b ≤ 255 := by
  intro b hb
  simp only [sum4, List.mem_cons, List.not_mem_nil, or_false] at hb
  omega
theorem bytesOf_strOf (l : List Int) (hb : ∀ b ∈ l, 0 ≤ b ∧ b ≤ 255) : bytesOf (strOfNums l) = l := by
  have h : (bytesOf (strOfNums l)) = l.map fun n => ((UInt8.ofNat n.toNat).toNat : Int) := by
    unfold bytesOf
    rw [strOfNums_data, List.map_map]
    rfl
  rw [h]
  have : l.map (fun n => ((UInt8.ofNat n.toNat).toNat : Int)) = l.map id := by
    apply List.map_congr_left
    intro n hn
    have := hb n hn
    simp only [id, UInt8.toNat_ofNat']
    omega
  rw [this, List.map_id]
theorem groups_bytes (n : Int) (h0 : 0 ≤ n) (h1 : n ≤ 1000000) : ∀ b ∈ groups n, 0 ≤ b ∧ b ≤ 255 := by
  intro b hb
  unfold groups at hb
  by_cases c : n > 127
  · rw [if_pos c] at hb
    by_cases c2 : n / 128 > 127
    · rw [if_pos c2] at hb
      simp only [List.mem_cons, List.not_mem_nil, or_false] at hb
      omega
    · rw [if_neg c2] at hb
      simp only [List.mem_cons, List.not_mem_nil, or_false] at hb
      omega
  · rw [if_neg c] at hb
    simp only [List.mem_cons, List.not_mem_nil, or_false] at hb
    omega
theorem uM_bytes (n : Int) : ∀ b ∈ uM n, 0 ≤ b ∧ b ≤ 255 := groups_bytes _ (clampU_bd n).1 (clampU_bd n).2
theorem app_bytes {a b : List Int} (ha : ∀ x ∈ a, 0 ≤ x ∧ x ≤ 255) (hb : ∀ x ∈ b, 0 ≤ x ∧ x ≤ 255) : ∀ x ∈ a ++ b, 0 ≤ x ∧ x ≤ 255 := fun x hx => (List.mem_append.1 hx).elim (ha x) (hb x)
theorem bytesOf_bytes (s : ByteArray) : ∀ x ∈ bytesOf s, 0 ≤ x ∧ x ≤ 255 := by
  intro x hx
  unfold bytesOf at hx
  obtain ⟨b, _, rfl⟩ := List.mem_map.1 hx
  have := b.toNat_lt
  omega
theorem flatMap_len {β : Type} (l : List β) (f : β → List Int) : (l.flatMap f).length = (l.map fun x => (f x).length).sum := by
  induction l with
  | nil => rfl
  | cons x r ih => rw [List.flatMap_cons, List.length_append, ih, List.map_cons, List.sum_cons]
def txtM (s : ByteArray) : List Int := uM s.size ++ bytesOf s
theorem txtM_len (s : ByteArray) : (txtM s).length ≤ 3 + s.size := by
  have := uM_len s.size
  unfold txtM
  rw [List.length_append, bytesOf_length]
  omega
end Go.Proofs.Ytllgmgpfdnofmaa.KitB
