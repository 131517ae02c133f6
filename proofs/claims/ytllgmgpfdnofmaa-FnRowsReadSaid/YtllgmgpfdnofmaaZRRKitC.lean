import Derived.Test.YtllgmgpfdnofmaaZRRKitB
namespace Go.Proofs.Ytllgmgpfdnofmaa.KitC
open Go.RowKit Go.Proofs.YtllgmgpfdnofmaaW.PrintWords Go.Proofs.YtllgmgpfdnofmaaW.PrintMore Go.Proofs.Ytllgmgpfdnofmaa.Kit Go.Proofs.Ytllgmgpfdnofmaa.KitB
def beM : Nat → Int → List Int
  | 0, _ => []
  | d + 1, x => if x > 0 then beM d (x / 256) ++ [x % 256] else []
def digM (x : Int) : Nat → List Int
  | 0 => []
  | j + 1 => (x / 256 ^ j % 256) :: digM x j
theorem digM_succ (x : Int) : ∀ (n : Nat), digM x (n + 1) = digM (x / 256) n ++ [x % 256]
  | 0 => by simp [digM]
  | n + 1 => by
    rw [digM, digM_succ x n, digM, List.cons_append]
    congr 2
    rw [Int.ediv_ediv_of_nonneg (by omega), Int.pow_succ, Int.mul_comm]
theorem beM_dig : ∀ (d : Nat) (x : Int), beM d x = digM x (beM d x).length
  | 0, _ => rfl
  | d + 1, x => by
    rw [beM]
    by_cases h : x > 0
    · rw [if_pos h, List.length_append, List.length_singleton, digM_succ, ← beM_dig d (x / 256)]
    · rw [if_neg h]; rfl
theorem beM_len : ∀ (d : Nat) (x : Int), (beM d x).length ≤ d
  | 0, _ => Nat.le_refl _
  | d + 1, x => by
    rw [beM]
    by_cases h : x > 0
    · rw [if_pos h, List.length_append, List.length_singleton]; have := beM_len d (x / 256); omega
    · rw [if_neg h]; exact Nat.zero_le _
theorem beM_bytes : ∀ (d : Nat) (x : Int), ∀ b ∈ beM d x, 0 ≤ b ∧ b ≤ 255
  | 0, _, b, h => by cases h
  | d + 1, x, b, h => by
    rw [beM] at h
    by_cases c : x > 0
    · rw [if_pos c] at h
      rcases List.mem_append.1 h with h | h
      · exact beM_bytes d _ b h
      · rw [List.mem_singleton] at h; omega
    · rw [if_neg c] at h; cases h
theorem xor255_nat (b : Nat) (h : b < 2 ^ 8) : 255 ^^^ b = 255 - b := by
  apply Nat.eq_of_testBit_eq
  intro i
  rw [Nat.testBit_xor, show (255 : Nat) = 2 ^ 8 - 1 from rfl, Nat.testBit_two_pow_sub_one, show 2 ^ 8 - 1 - b = 2 ^ 8 - (b + 1) by omega, Nat.testBit_two_pow_sub_succ h]
  by_cases c : i < 8
  · simp [c]
  · have : b.testBit i = false := Nat.testBit_lt_two_pow (Nat.lt_of_lt_of_le h (Nat.pow_le_pow_right (by decide) (by omega)))
    simp [c, this]
theorem xor_u8 (a b : Nat) (ha : a < 2 ^ 8) (hb : b < 2 ^ 8) : Go.bits .xor .u8 (a : Int) (b : Int) = ((a ^^^ b : Nat) : Int) := xor_nat .u8 8 (by decide) wraps_u8 a b ha hb
theorem flip_l (b : Int) (h0 : 0 ≤ b) (h1 : b ≤ 255) : Go.bits .xor .u8 255 b = 255 - b := by
  obtain ⟨n, rfl⟩ := Int.eq_ofNat_of_zero_le h0
  have h := xor_u8 255 n (by decide) (by omega)
  have e := xor255_nat n (by omega)
  rw [show (255 : Int) = ((255 : Nat) : Int) from rfl, h, e]
  omega
theorem flip_r (b : Int) (h0 : 0 ≤ b) (h1 : b ≤ 255) : Go.bits .xor .u8 b 255 = 255 - b := by
  obtain ⟨n, rfl⟩ := Int.eq_ofNat_of_zero_le h0
  have h := xor_u8 n 255 (by omega) (by decide)
  have e := xor255_nat n (by omega)
  rw [Nat.xor_comm] at e
  rw [show (255 : Int) = ((255 : Nat) : Int) from rfl, h, e]
  omega
theorem flip_0 (b : Int) (h0 : 0 ≤ b) (h1 : b ≤ 255) : Go.bits .xor .u8 b 0 = b := by
  obtain ⟨n, rfl⟩ := Int.eq_ofNat_of_zero_le h0
  have h := xor_u8 n 0 (by omega) (by decide)
  rw [Nat.xor_zero] at h
  exact h
def clampV (n : Int) : Int := if n > 1000000000000000 then 1000000000000000 else if n < -1000000000000000 then -1000000000000000 else n
theorem clampV_bd (n : Int) : -1000000000000000 ≤ clampV n ∧ clampV n ≤ 1000000000000000 := by
  by_cases h : n > 1000000000000000 <;> by_cases h2 : n < -1000000000000000 <;> simp [clampV, h, h2] <;> omega
theorem clampV_mx (n : Int) : mx (-1000000000000000) (mn n 1000000000000000) = clampV n := by
  unfold mx mn clampV
  by_cases h : (1000000000000000 : Int) < n
  · rw [if_pos h, if_pos (show n > 1000000000000000 from h), if_pos (by decide)]
  · rw [if_neg h, if_neg (show ¬ n > 1000000000000000 from h)]
    by_cases h1 : n < -1000000000000000
    · rw [if_neg (by omega), if_pos h1]
    · rw [if_neg h1]
      by_cases h2 : (-1000000000000000 : Int) < n
      · rw [if_pos h2]
      · rw [if_neg h2]; omega
def varM (n : Int) : List Int :=
  if clampV n ≥ 0 then (128 + ((beM 7 (clampV n)).length : Int)) :: beM 7 (clampV n)
  else (127 - ((beM 7 (-1 - clampV n)).length : Int)) :: (beM 7 (-1 - clampV n)).map (fun b => 255 - b)
theorem varM_len (n : Int) : 1 ≤ (varM n).length ∧ (varM n).length ≤ 8 := by
  unfold varM
  by_cases c : clampV n ≥ 0
  · rw [if_pos c, List.length_cons]; have := beM_len 7 (clampV n); omega
  · rw [if_neg c, List.length_cons, List.length_map]; have := beM_len 7 (-1 - clampV n); omega
theorem varM_bytes (n : Int) : ∀ b ∈ varM n, 0 ≤ b ∧ b ≤ 255 := by
  intro b hb
  unfold varM at hb
  by_cases c : clampV n ≥ 0
  · rw [if_pos c] at hb
    have := beM_len 7 (clampV n)
    rcases List.mem_cons.1 hb with rfl | hb
    · omega
    · exact beM_bytes 7 _ b hb
  · rw [if_neg c] at hb
    have := beM_len 7 (-1 - clampV n)
    rcases List.mem_cons.1 hb with rfl | hb
    · omega
    · obtain ⟨a, ha, rfl⟩ := List.mem_map.1 hb
      have := beM_bytes 7 _ a ha
      omega
theorem shr_at (x : Int) (j : Nat) (hj : j ≤ 7) : shr .i64 x (8 * (j : Int)) = x / 256 ^ j := by
  unfold shr
  have e : min (8 * (j : Int)).toNat IntKind.i64.bits = 8 * j := by
    have : IntKind.i64.bits = 64 := rfl
    omega
  rw [e, Int.pow_mul]
  rfl
def valM (k n : Int) (s : ByteArray) : List Int := uM k ++ (if k = 1 ∨ k = 2 then varM n else if k = 3 then txtM s else if k = 4 then [n % 256] else [])
theorem txtM_bytes (s : ByteArray) : ∀ b ∈ txtM s, 0 ≤ b ∧ b ≤ 255 := app_bytes (uM_bytes _) (bytesOf_bytes s)
theorem valM_bytes (k n : Int) (s : ByteArray) : ∀ b ∈ valM k n s, 0 ≤ b ∧ b ≤ 255 := by
  unfold valM
  refine app_bytes (uM_bytes _) ?_
  split
  · exact varM_bytes n
  · split
    · exact txtM_bytes s
    · split
      · intro b hb; rw [List.mem_singleton] at hb; omega
      · intro b hb; cases hb
theorem valM_len (k n : Int) (s : ByteArray) : (valM k n s).length ≤ 11 + s.size := by
  have h := uM_len k
  have h2 := varM_len n
  have h3 := txtM_len s
  unfold valM
  rw [List.length_append]
  split
  · omega
  · split
    · omega
    · split
      · simp; omega
      · simp; omega
theorem ev_flatB {α β : Type} (L : Nat → List Int → Int → Option α) (l : List β) (f : β → List Int) (F : List Int → α) (B : Nat) (hf : ∀ x, ∀ b ∈ f x, 0 ≤ b ∧ b ≤ 255)
    (base : ∀ s, s.length ≤ B → (∀ b ∈ s, 0 ≤ b ∧ b ≤ 255) → Ev (fun k => L k s (l.length : Int)) (F s))
    (step : ∀ s i x r, s.length + (f x).length ≤ B → i < l.length → l[i]? = some x → Ev (fun k => L k (s ++ f x) ((i + 1 : Nat) : Int)) r → Ev (fun k => L k s (i : Int)) r)
    (s : List Int) (hs : s.length + (l.map fun x => (f x).length).sum ≤ B) (hb : ∀ b ∈ s, 0 ≤ b ∧ b ≤ 255) : Ev (fun k => L k s 0) (F (s ++ l.flatMap f)) := by
  refine ev_listI0 L l (fun s i => s.length + ((l.drop i).map fun x => (f x).length).sum ≤ B ∧ ∀ b ∈ s, 0 ≤ b ∧ b ≤ 255) (fun s _ r => F (s ++ r.flatMap f)) s ⟨by simpa using hs, hb⟩ ?_ ?_
  · intro s hI
    simpa using base s (by simpa using hI.1) hI.2
  · intro s i x r hI hi hx hd ih
    have hI1 := hI.1
    rw [hd, List.map_cons, List.sum_cons] at hI1
    have hd1 : l.drop (i + 1) = r := by rw [← List.tail_drop, hd]; rfl
    have h := ih (s ++ f x) ⟨by rw [hd1, List.length_append]; omega, app_bytes hI.2 (hf x)⟩
    refine step s i x _ (by omega) hi hx (ev_eq h ?_)
    simp
end Go.Proofs.Ytllgmgpfdnofmaa.KitC
