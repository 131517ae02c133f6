/- An interpreter over lists and numbers, and that the program does what it does (part D). No condition beyond those in each statement. -/
import Derived.Test.YthadcmcdbcfjaaaGreatDoorPvLcC
import Derived.Laws.BitsLemmas
set_option linter.unusedVariables false
set_option linter.unusedSimpArgs false
set_option linter.unusedVariables false
namespace Go.PV.T
open Go
def inB (a lo hi : Int) : Bool := decide (lo ≤ a) && decide (a ≤ hi)
theorem inB_iff {a lo hi : Int} : inB a lo hi = true ↔ lo ≤ a ∧ a ≤ hi := by simp [inB]
abbrev bytesOf := strNums
abbrev strOfNums := numsStr
theorem bytesOf_length (s : ByteArray) : (bytesOf s).length = s.size := by simp [strNums]
theorem strOfNums_data (l : List Int) : (strOfNums l).data.toList = l.map fun n => UInt8.ofNat n.toNat := by simp [numsStr]
theorem strOfNums_size (l : List Int) : (strOfNums l).size = l.length := by simp [numsStr, ByteArray.size]
theorem toList_bytes (s : ByteArray) : bytesOf s = s.toList.map fun b => (b.toNat : Int) := by rw [ByteArray.toList_eq]; rfl
def shl (k : IntKind) (x y : Int) : Int := k.wrap (x * 2 ^ (min y.toNat k.bits))
def shr (k : IntKind) (x y : Int) : Int := Int.fdiv x (2 ^ (min y.toNat k.bits))
theorem clampU_mx (n : Int) : (bif decide ((bif decide (1000000 < n) then 1000000 else n) > 0) then (bif decide (1000000 < n) then 1000000 else n) else 0) = (if n < 0 then 0 else if n > 1000000 then 1000000 else n) := by
 by_cases h : (1000000 : Int) < n <;> by_cases h0 : (0 : Int) < n <;> by_cases h1 : n < 0 <;> simp [h, h0, h1] <;> omega
def nameM (n : Int) : Nat → List Int → Bool
 | _, [] => inB n 1 8
 | i, c :: r => if inB c 97 122 = true then nameM n (i + 1) r else if i = 0 then false else if inB c 48 57 = true then nameM n (i + 1) r else false
theorem bytesOf_inj {s t : ByteArray} : bytesOf s = bytesOf t ↔ s.toList = t.toList := by
 rw [toList_bytes, toList_bytes]
 constructor
 ·intro h
  exact List.map_inj_right (fun a b hab => UInt8.toNat_inj.1 (Int.ofNat_inj.1 hab)) |>.1 h
 ·intro h; rw [h]
def markM (l : List Int) : Bool := if l = [123] then true else if l = [125] then true else if l = [44] then true else decide (l = [59])
def tokM (k : Int) (s : List Int) : Bool := if k = 1 then nameM s.length 0 s else if k = 2 then markM s else false
def partOkM (col ty : Int) : Bool := if inB col 0 9 = true then inB ty 1 4 else false
theorem empty_toList (s : ByteArray) : (s.toList == ([] : List UInt8)) = decide (bytesOf s = []) := by
 rw [toList_bytes, Bool.eq_iff_iff]; simp
def valOkM (k n : Int) (s : List Int) : Bool :=
 if k = 0 then (if n = 0 then decide (s = []) else false)
 else if k = 1 then (if inB n (-2147483648) 2147483647 = true then decide (s = []) else false)
 else if k = 2 then (if inB n (-1000000000000000) 1000000000000000 = true then decide (s = []) else false)
 else if k = 3 then (if n = 0 then decide ((s.length : Int) ≤ 30) else false)
 else if k = 4 then (if inB n 0 1 = true then decide (s = []) else false)
 else false
def fitsM (ty : Int) (null : Bool) (k n : Int) (s : List Int) : Bool :=
 if valOkM k n s = true then (if k = ty then (if k = 0 then null else true) else (if k = 0 then null else false)) else false
theorem wraps_i64 (n : Int) (h₀ : 0 ≤ n) (h₁ : n < 2 ^ 62) : IntKind.i64.wrap n = n := by rw [IntKind.wrap_i64]; omega
theorem wraps_u32 (n : Int) (h₀ : 0 ≤ n) (h₁ : n < 2 ^ 32) : IntKind.u32.wrap n = n := by rw [IntKind.wrap_u32]; omega
theorem and127 (x : Int) (h₀ : 0 ≤ x) (h₁ : x < 4611686018427387904) : Go.bits .and .i64 x 127 = x % 128 := bits_mask .i64 62 (by decide) wraps_i64 7 (by decide) x h₀ h₁
theorem or128 (x : Int) (h₀ : 0 ≤ x) (h₁ : x < 128) : Go.bits .or .i64 x 128 = x + 128 := by
 obtain ⟨a, rfl⟩ := Int.eq_ofNat_of_zero_le h₀
 have ha : a < 128 := by omega
 have h := (bits_nat .i64 62 (by decide) wraps_i64 a 128 (by omega) (by omega)).2
 have e : (a ||| 128 : Nat) = a + 128 := by
  have h2 := Nat.two_pow_add_eq_or_of_lt (i := 7) (b := a) ha 1
  rw [Nat.mul_one] at h2
  rw [Nat.or_comm, ← show (2 ^ 7 ||| a) = (128 ||| a) from rfl, ← h2]
  omega
 rw [show ((128 : Int)) = ((128 : Nat) : Int) from rfl, h, e]; rfl
def clampU (n : Int) : Int := if n < 0 then 0 else if n > 1000000 then 1000000 else n
theorem clampU_bd (n : Int) : 0 ≤ clampU n ∧ clampU n ≤ 1000000 := by
 by_cases h : n < 0 <;> by_cases h2 : n > 1000000 <;> simp [clampU, h, h2] <;> omega
def groups (n : Int) : List Int := if n > 127 then (if n / 128 > 127 then [n % 128 + 128, n / 128 % 128 + 128, n / 16384] else [n % 128 + 128, n / 128]) else [n]
def uM (n : Int) : List Int := groups (clampU n)
theorem groups_len (n : Int) : 1 ≤ (groups n).length ∧ (groups n).length ≤ 3 := by unfold groups; by_cases h : n > 127 <;> by_cases h2 : n / 128 > 127 <;> simp [h, h2]
theorem uM_len (n : Int) : 1 ≤ (uM n).length ∧ (uM n).length ≤ 3 := groups_len _
def crcStep (x : Nat) : Nat := if x % 2 = 1 then (x / 2) ^^^ 2197175160 else x / 2
def crcN : Nat → Nat → Nat
 | 0, x => x
 | n + 1, x => crcN n (crcStep x)
def crcByte (x : Nat) (b : Int) : Nat := crcN 8 (x ^^^ b.toNat)
def crcFold (x : Nat) (l : List Int) : Nat := l.foldl crcByte x
def crcM (l : List Int) : Int := ((crcFold 4294967295 l ^^^ 4294967295 : Nat) : Int)
theorem crcStep_lt {x : Nat} (h : x < 2 ^ 32) : crcStep x < 2 ^ 32 := by
 unfold crcStep
 split
 ·exact Nat.xor_lt_two_pow (by omega) (by decide)
 ·omega
theorem crcN_lt : ∀ (n x : Nat), x < 2 ^ 32 → crcN n x < 2 ^ 32
 | 0, _, h => h
 | n + 1, _, h => crcN_lt n _ (crcStep_lt h)
theorem crcByte_lt {x : Nat} (h : x < 2 ^ 32) {b : Int} (hb : b ≤ 255) : crcByte x b < 2 ^ 32 := crcN_lt 8 _ (Nat.xor_lt_two_pow h (by omega))
theorem crcFold_lt : ∀ (l : List Int) (x : Nat), x < 2 ^ 32 → (∀ b ∈ l, b ≤ 255) → crcFold x l < 2 ^ 32
 | [], _, h, _ => h
 | b :: r, _, h, hl => crcFold_lt r _ (crcByte_lt h (hl b List.mem_cons_self)) (fun c hc => hl c (List.mem_cons_of_mem _ hc))
theorem crcM_bd (l : List Int) (hl : ∀ b ∈ l, b ≤ 255) : 0 ≤ crcM l ∧ crcM l < 4294967296 := by
 have h := crcFold_lt l 4294967295 (by decide) hl
 have h2 : (crcFold 4294967295 l ^^^ 4294967295 : Nat) < 2 ^ 32 := Nat.xor_lt_two_pow h (by decide)
 unfold crcM
 omega
theorem xor_nat (k : IntKind) (j : Nat) (hj : j ≤ k.bits) (hk : ∀ n : Int, 0 ≤ n → n < 2 ^ j → k.wrap n = n) (a b : Nat) (ha : a < 2 ^ j) (hb : b < 2 ^ j) : Go.bits .xor k a b = ((a ^^^ b : Nat) : Int) := by
 have hp : 2 ^ j ≤ 2 ^ k.bits := Nat.pow_le_pow_right (by decide) hj
 have ha' : a % 2 ^ k.bits = a := Nat.mod_eq_of_lt (Nat.lt_of_lt_of_le ha hp)
 have hb' : b % 2 ^ k.bits = b := Nat.mod_eq_of_lt (Nat.lt_of_lt_of_le hb hp)
 simp only [Go.bits, BitVec.ofInt_natCast, BitVec.toNat_xor, BitVec.toNat_ofNat, ha', hb']
 exact hk _ (Int.natCast_nonneg _) (by have := Nat.xor_lt_two_pow ha hb; exact_mod_cast this)
theorem xor_i64 (a b : Nat) (ha : a < 2 ^ 32) (hb : b < 2 ^ 32) : Go.bits .xor .i64 (a : Int) (b : Int) = ((a ^^^ b : Nat) : Int) :=
 xor_nat .i64 62 (by decide) wraps_i64 a b (by omega) (by omega)
theorem xor_u32 (a b : Nat) (ha : a < 2 ^ 32) (hb : b < 2 ^ 32) : Go.bits .xor .u32 (a : Int) (b : Int) = ((a ^^^ b : Nat) : Int) :=
 xor_nat .u32 32 (by decide) wraps_u32 a b ha hb
theorem and1_i64 (a : Nat) (ha : a < 2 ^ 32) : Go.bits .and .i64 (a : Int) 1 = (a : Int) % 2 := bits_mask .i64 62 (by decide) wraps_i64 1 (by decide) _ (by omega) (by omega)
theorem and1_u32 (a : Nat) (ha : a < 2 ^ 32) : Go.bits .and .u32 (a : Int) 1 = (a : Int) % 2 := bits_mask .u32 32 (by decide) wraps_u32 1 (by decide) _ (by omega) (by omega)
def sum4 (c : Int) : List Int := [c / 16777216 % 256, c / 65536 % 256, c / 256 % 256, c % 256]
theorem bytesOf_strOf (l : List Int) (hb : ∀ b ∈ l, 0 ≤ b ∧ b ≤ 255) : bytesOf (strOfNums l) = l := by
 have h : (bytesOf (strOfNums l)) = l.map fun n => ((UInt8.ofNat n.toNat).toNat : Int) := by
  unfold bytesOf strNums
  rw [strOfNums_data, List.map_map]
  rfl
 rw [h]
 have : l.map (fun n => ((UInt8.ofNat n.toNat).toNat : Int)) = l.map id := by
  apply List.map_congr_left
  intro n hn
  have := hb n hn
  simp only [id, UInt8.toNat_ofNat']
  omega
 rw [this, List.map_id]
theorem groups_bytes (n : Int) (h0 : 0 ≤ n) (h1 : n ≤ 1000000) : ∀ b ∈ groups n, 0 ≤ b ∧ b ≤ 255 := by
 intro b hb
 unfold groups at hb
 by_cases c : n > 127
 ·rw [if_pos c] at hb
  by_cases c2 : n / 128 > 127
  ·rw [if_pos c2] at hb
   simp only [List.mem_cons, List.not_mem_nil, or_false] at hb
   omega
  ·rw [if_neg c2] at hb
   simp only [List.mem_cons, List.not_mem_nil, or_false] at hb
   omega
 ·rw [if_neg c] at hb
  simp only [List.mem_cons, List.not_mem_nil, or_false] at hb
  omega
theorem uM_bytes (n : Int) : ∀ b ∈ uM n, 0 ≤ b ∧ b ≤ 255 := groups_bytes _ (clampU_bd n).1 (clampU_bd n).2
theorem app_bytes {a b : List Int} (ha : ∀ x ∈ a, 0 ≤ x ∧ x ≤ 255) (hb : ∀ x ∈ b, 0 ≤ x ∧ x ≤ 255) : ∀ x ∈ a ++ b, 0 ≤ x ∧ x ≤ 255 := fun x hx => (List.mem_append.1 hx).elim (ha x) (hb x)
theorem bytesOf_bytes (s : ByteArray) : ∀ x ∈ bytesOf s, 0 ≤ x ∧ x ≤ 255 := by
 intro x hx
 unfold bytesOf at hx
 obtain ⟨b, _, rfl⟩ := List.mem_map.1 hx
 have := b.toNat_lt
 omega
def txtM (s : ByteArray) : List Int := uM s.size ++ bytesOf s
theorem txtM_len (s : ByteArray) : (txtM s).length ≤ 3 + s.size := by
 have := uM_len s.size
 unfold txtM
 rw [List.length_append, bytesOf_length]
 omega
def beM : Nat → Int → List Int
 | 0, _ => []
 | d + 1, x => if x > 0 then beM d (x / 256) ++ [x % 256] else []
def digM (x : Int) : Nat → List Int
 | 0 => []
 | j + 1 => (x / 256 ^ j % 256) :: digM x j
theorem digM_succ (x : Int) : ∀ (n : Nat), digM x (n + 1) = digM (x / 256) n ++ [x % 256]
 | 0 => by simp [digM]
 | n + 1 => by
  rw [digM, digM_succ x n, digM, List.cons_append]
  congr 2
  rw [Int.ediv_ediv_of_nonneg (by omega), Int.pow_succ, Int.mul_comm]
theorem digM_len (x : Int) : ∀ n, (digM x n).length = n
 | 0 => rfl
 | n + 1 => by rw [digM, List.length_cons, digM_len x n]
theorem beM_dig : ∀ (d : Nat) (x : Int), beM d x = digM x (beM d x).length
 | 0, _ => rfl
 | d + 1, x => by
  rw [beM]
  by_cases h : x > 0
  ·rw [if_pos h, List.length_append, List.length_singleton, digM_succ, ← beM_dig d (x / 256)]
  ·rw [if_neg h]; rfl
theorem beM_len : ∀ (d : Nat) (x : Int), (beM d x).length ≤ d
 | 0, _ => Nat.le_refl _
 | d + 1, x => by
  rw [beM]
  by_cases h : x > 0
  ·rw [if_pos h, List.length_append, List.length_singleton]; have := beM_len d (x / 256); omega
  ·rw [if_neg h]; exact Nat.zero_le _
theorem beM_bytes : ∀ (d : Nat) (x : Int), ∀ b ∈ beM d x, 0 ≤ b ∧ b ≤ 255
 | 0, _, b, h => by cases h
 | d + 1, x, b, h => by
  rw [beM] at h
  by_cases c : x > 0
  ·rw [if_pos c] at h
   rcases List.mem_append.1 h with h | h
   ·exact beM_bytes d _ b h
   ·rw [List.mem_singleton] at h; omega
  ·rw [if_neg c] at h; cases h
theorem xor255_nat (b : Nat) (h : b < 2 ^ 8) : 255 ^^^ b = 255 - b := by
 apply Nat.eq_of_testBit_eq
 intro i
 rw [Nat.testBit_xor, show (255 : Nat) = 2 ^ 8 - 1 from rfl, Nat.testBit_two_pow_sub_one, show 2 ^ 8 - 1 - b = 2 ^ 8 - (b + 1) by omega, Nat.testBit_two_pow_sub_succ h]
 by_cases c : i < 8
 ·simp [c]
 ·have : b.testBit i = false := Nat.testBit_lt_two_pow (Nat.lt_of_lt_of_le h (Nat.pow_le_pow_right (by decide) (by omega)))
  simp [c, this]
theorem xor_u8 (a b : Nat) (ha : a < 2 ^ 8) (hb : b < 2 ^ 8) : Go.bits .xor .u8 (a : Int) (b : Int) = ((a ^^^ b : Nat) : Int) := xor_nat .u8 8 (by decide) wraps_u8 a b ha hb
theorem flip_l (b : Int) (h0 : 0 ≤ b) (h1 : b ≤ 255) : Go.bits .xor .u8 255 b = 255 - b := by
 obtain ⟨n, rfl⟩ := Int.eq_ofNat_of_zero_le h0
 have h := xor_u8 255 n (by decide) (by omega)
 have e := xor255_nat n (by omega)
 rw [show (255 : Int) = ((255 : Nat) : Int) from rfl, h, e]
 omega
theorem flip_r (b : Int) (h0 : 0 ≤ b) (h1 : b ≤ 255) : Go.bits .xor .u8 b 255 = 255 - b := by
 obtain ⟨n, rfl⟩ := Int.eq_ofNat_of_zero_le h0
 have h := xor_u8 n 255 (by omega) (by decide)
 have e := xor255_nat n (by omega)
 rw [Nat.xor_comm] at e
 rw [show (255 : Int) = ((255 : Nat) : Int) from rfl, h, e]
 omega
theorem flip_0 (b : Int) (h0 : 0 ≤ b) (h1 : b ≤ 255) : Go.bits .xor .u8 b 0 = b := by
 obtain ⟨n, rfl⟩ := Int.eq_ofNat_of_zero_le h0
 have h := xor_u8 n 0 (by omega) (by decide)
 rw [Nat.xor_zero] at h
 exact h
def clampV (n : Int) : Int := if n > 1000000000000000 then 1000000000000000 else if n < -1000000000000000 then -1000000000000000 else n
theorem clampV_bd (n : Int) : -1000000000000000 ≤ clampV n ∧ clampV n ≤ 1000000000000000 := by
 by_cases h : n > 1000000000000000 <;> by_cases h2 : n < -1000000000000000 <;> simp [clampV, h, h2] <;> omega
def varM (n : Int) : List Int :=
 if clampV n ≥ 0 then (128 + ((beM 7 (clampV n)).length : Int)) :: beM 7 (clampV n)
 else (127 - ((beM 7 (-1 - clampV n)).length : Int)) :: (beM 7 (-1 - clampV n)).map (fun b => 255 - b)
theorem varM_len (n : Int) : 1 ≤ (varM n).length ∧ (varM n).length ≤ 8 := by
 unfold varM
 by_cases c : clampV n ≥ 0
 ·rw [if_pos c, List.length_cons]; have := beM_len 7 (clampV n); omega
 ·rw [if_neg c, List.length_cons, List.length_map]; have := beM_len 7 (-1 - clampV n); omega
theorem varM_bytes (n : Int) : ∀ b ∈ varM n, 0 ≤ b ∧ b ≤ 255 := by
 intro b hb
 unfold varM at hb
 by_cases c : clampV n ≥ 0
 ·rw [if_pos c] at hb
  have := beM_len 7 (clampV n)
  rcases List.mem_cons.1 hb with rfl | hb
  ·omega
  ·exact beM_bytes 7 _ b hb
 ·rw [if_neg c] at hb
  have := beM_len 7 (-1 - clampV n)
  rcases List.mem_cons.1 hb with rfl | hb
  ·omega
  ·obtain ⟨a, ha, rfl⟩ := List.mem_map.1 hb
   have := beM_bytes 7 _ a ha
   omega
theorem shr_at (x : Int) (j : Nat) (hj : j ≤ 7) : shr .i64 x (8 * (j : Int)) = x / 256 ^ j := by
 unfold shr
 rw [Int.fdiv_eq_ediv_of_nonneg _ (Int.le_of_lt (Int.pow_pos (by decide)))]
 have e : min (8 * (j : Int)).toNat IntKind.i64.bits = 8 * j := by
  have : IntKind.i64.bits = 64 := rfl
  omega
 rw [e, Int.pow_mul]
 rfl
def valM (k n : Int) (s : ByteArray) : List Int := uM k ++ (if k = 1 ∨ k = 2 then varM n else if k = 3 then txtM s else if k = 4 then [n % 256] else [])
theorem txtM_bytes (s : ByteArray) : ∀ b ∈ txtM s, 0 ≤ b ∧ b ≤ 255 := app_bytes (uM_bytes _) (bytesOf_bytes s)
theorem valM_bytes (k n : Int) (s : ByteArray) : ∀ b ∈ valM k n s, 0 ≤ b ∧ b ≤ 255 := by
 unfold valM
 refine app_bytes (uM_bytes _) ?_
 split
 ·exact varM_bytes n
 ·split
  ·exact txtM_bytes s
  ·split
   ·intro b hb; rw [List.mem_singleton] at hb; omega
   ·intro b hb; cases hb
theorem valM_len (k n : Int) (s : ByteArray) : (valM k n s).length ≤ 11 + s.size := by
 have h := uM_len k
 have h2 := varM_len n
 have h3 := txtM_len s
 unfold valM
 rw [List.length_append]
 split
 ·omega
 ·split
  ·omega
  ·split
   ·simp; omega
   ·simp; omega
def flipIf (b : Bool) (l : List Int) : List Int := if b = true then l.map (fun x => 255 - x) else l
theorem flipIf_bytes (b : Bool) {l : List Int} (h : ∀ x ∈ l, 0 ≤ x ∧ x ≤ 255) : ∀ x ∈ flipIf b l, 0 ≤ x ∧ x ≤ 255 := by
 intro x hx
 unfold flipIf at hx
 split at hx
 ·obtain ⟨y, hy, rfl⟩ := List.mem_map.1 hx
  have := h y hy
  omega
 ·exact h x hx
theorem flipIf_len (b : Bool) (l : List Int) : (flipIf b l).length = l.length := by unfold flipIf; split <;> simp
def lenOf (x : Int) : Int := if x < 128 then 127 - x else x - 128
theorem strOf_bytesOf (s : ByteArray) : strOfNums (bytesOf s) = s := by
 have h : bytesOf (strOfNums (bytesOf s)) = bytesOf s := bytesOf_strOf _ (bytesOf_bytes s)
 have h2 := bytesOf_inj.1 h
 apply ByteArray.ext
 apply Array.toList_inj.1
 rw [ByteArray.toList_eq, ByteArray.toList_eq] at h2
 exact h2
end Go.PV.T
