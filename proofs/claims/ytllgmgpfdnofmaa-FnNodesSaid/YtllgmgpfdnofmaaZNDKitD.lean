import Derived.Test.YtllgmgpfdnofmaaZNDKitC
namespace Go.Proofs.Ytllgmgpfdnofmaa.KitD
open Go.RowKit Go.Proofs.YtllgmgpfdnofmaaW.PrintWords Go.Proofs.YtllgmgpfdnofmaaW.PrintMore Go.Proofs.Ytllgmgpfdnofmaa.Kit Go.Proofs.Ytllgmgpfdnofmaa.KitB Go.Proofs.Ytllgmgpfdnofmaa.KitC
theorem or_add (i : Nat) (a b : Int) (ha0 : 0 ≤ a) (ha : a * 2 ^ i < ((2 ^ 62 : Nat) : Int)) (hb0 : 0 ≤ b) (hb : b < 2 ^ i) (hi : i ≤ 60) : Go.bits .or .i64 (a * 2 ^ i) b = a * 2 ^ i + b := by
  obtain ⟨x, rfl⟩ := Int.eq_ofNat_of_zero_le ha0
  obtain ⟨y, rfl⟩ := Int.eq_ofNat_of_zero_le hb0
  have hy : y < 2 ^ i := by exact_mod_cast hb
  have e0 : ((x : Int) * 2 ^ i) = ((x * 2 ^ i : Nat) : Int) := by push_cast; rfl
  rw [e0] at ha ⊢
  have hx : x * 2 ^ i < 2 ^ 62 := Int.ofNat_lt.1 ha
  have hp : 2 ^ i ≤ 2 ^ 60 := Nat.pow_le_pow_right (by decide) hi
  have h := (bits_nat .i64 62 (by decide) wraps_i64 (x * 2 ^ i) y hx (by omega)).2
  have e := Nat.two_pow_add_eq_or_of_lt hy x
  rw [Nat.mul_comm (2 ^ i) x] at e
  rw [h, ← e]
  exact Int.natCast_add _ _
theorem or_comm_i64 (a b : Int) (ha0 : 0 ≤ a) (ha : a < 4611686018427387904) (hb0 : 0 ≤ b) (hb : b < 4611686018427387904) : Go.bits .or .i64 a b = Go.bits .or .i64 b a := by
  obtain ⟨x, rfl⟩ := Int.eq_ofNat_of_zero_le ha0
  obtain ⟨y, rfl⟩ := Int.eq_ofNat_of_zero_le hb0
  rw [(bits_nat .i64 62 (by decide) wraps_i64 x y (by omega) (by omega)).2, (bits_nat .i64 62 (by decide) wraps_i64 y x (by omega) (by omega)).2, Nat.or_comm]
theorem shl_at (x : Int) (i : Nat) (hi : i ≤ 2) (h0 : 0 ≤ x) (h1 : x ≤ 127) : shl .i64 x (7 * (i : Int)) = x * 128 ^ i := by
  have b : IntKind.i64.bits = 64 := rfl
  unfold shl
  have e : min (7 * (i : Int)).toNat IntKind.i64.bits = 7 * i := by omega
  rw [e, Int.pow_mul, show ((2 : Int) ^ 7) = 128 from rfl]
  match i, hi with
  | 0, _ => rw [Int.pow_zero]; exact wraps_i64 _ (by omega) (by omega)
  | 1, _ => rw [Int.pow_succ, Int.pow_zero]; exact wraps_i64 _ (by omega) (by omega)
  | 2, _ => rw [Int.pow_succ, Int.pow_succ, Int.pow_zero]; exact wraps_i64 _ (by omega) (by omega)
def getUR : Nat → Nat → Int → List Int → Option (Int × Nat)
  | 0, _, _, _ => none
  | _ + 1, _, _, [] => none
  | d + 1, i, v, x :: r => if x > 127 then getUR d (i + 1) (v + (x - 128) * 128 ^ i) r else if x = 0 ∧ i > 0 then none else if v + x * 128 ^ i > 1000000 then none else some (v + x * 128 ^ i, i + 1)
def getUM (r : List Int) : Option (Int × Nat) := getUR 3 0 0 r
theorem getUM_exact {r : List Int} (hb : ∀ b ∈ r, 0 ≤ b ∧ b ≤ 255) {n : Int} {c : Nat} (h : getUM r = some (n, c)) : 0 ≤ n ∧ n ≤ 1000000 ∧ c ≤ r.length ∧ 1 ≤ c ∧ uM n = r.take c ∧ r = uM n ++ r.drop c := by
  have key : 0 ≤ n ∧ n ≤ 1000000 ∧ c ≤ r.length ∧ 1 ≤ c ∧ uM n = r.take c := by
    unfold getUM at h
    match r with
    | [] => simp [getUR] at h
    | x :: r =>
      have hx := hb x List.mem_cons_self
      rw [getUR] at h
      by_cases c1 : x > 127
      · rw [if_pos c1] at h
        match r with
        | [] => simp [getUR] at h
        | y :: r =>
          have hy := hb y (by simp)
          rw [getUR] at h
          by_cases c2 : y > 127
          · rw [if_pos c2] at h
            match r with
            | [] => simp [getUR] at h
            | z :: r =>
              have hz := hb z (by simp)
              rw [getUR] at h
              by_cases c3 : z > 127
              · rw [if_pos c3] at h; simp [getUR] at h
              · rw [if_neg c3] at h
                by_cases c4 : z = 0 ∧ 0 + 1 + 1 > 0
                · rw [if_pos c4] at h; cases h
                · rw [if_neg c4] at h
                  split at h
                  · cases h
                  · rename_i c5
                    simp only [Option.some.injEq, Prod.mk.injEq] at h
                    obtain ⟨rfl, rfl⟩ := h
                    have hz0 : z ≠ 0 := fun e => c4 ⟨e, by omega⟩
                    simp only [Int.pow_zero, Int.pow_succ, Int.one_mul, Int.mul_one, Int.zero_add, Nat.zero_add, Nat.reduceAdd] at c5 ⊢
                    refine ⟨by omega, by omega, by simp, by omega, ?_⟩
                    unfold uM
                    rw [show clampU (x - 128 + (y - 128) * 128 + z * (128 * 128)) = x - 128 + (y - 128) * 128 + z * (128 * 128) by unfold clampU; rw [if_neg (by omega), if_neg (by omega)]]
                    unfold groups
                    rw [if_pos (by omega), if_pos (by omega)]
                    simp only [List.take_succ_cons, List.take_zero]
                    congr 1
                    · omega
                    · congr 1
                      · omega
                      · congr 1; omega
          · rw [if_neg c2] at h
            by_cases c4 : y = 0 ∧ 0 + 1 > 0
            · rw [if_pos c4] at h; cases h
            · rw [if_neg c4] at h
              split at h
              · cases h
              · rename_i c5
                simp only [Option.some.injEq, Prod.mk.injEq] at h
                obtain ⟨rfl, rfl⟩ := h
                have hy0 : y ≠ 0 := fun e => c4 ⟨e, by omega⟩
                simp only [Int.pow_zero, Int.pow_succ, Int.one_mul, Int.mul_one, Int.zero_add, Nat.zero_add, Nat.reduceAdd] at c5 ⊢
                refine ⟨by omega, by omega, by simp, by omega, ?_⟩
                unfold uM
                rw [show clampU (x - 128 + y * 128) = x - 128 + y * 128 by unfold clampU; rw [if_neg (by omega), if_neg (by omega)]]
                unfold groups
                rw [if_pos (by omega), if_neg (by omega)]
                simp only [List.take_succ_cons, List.take_zero]
                congr 1
                · omega
                · congr 1; omega
      · rw [if_neg c1] at h
        rw [if_neg (by omega)] at h
        split at h
        · cases h
        · rename_i c5
          simp only [Option.some.injEq, Prod.mk.injEq] at h
          obtain ⟨rfl, rfl⟩ := h
          simp only [Int.pow_zero, Int.mul_one, Int.zero_add, Nat.zero_add] at c5 ⊢
          refine ⟨by omega, by omega, by simp, by omega, ?_⟩
          unfold uM
          rw [show clampU x = x by unfold clampU; rw [if_neg (by omega), if_neg (by omega)]]
          unfold groups
          rw [if_neg (by omega)]
          simp
  exact ⟨key.1, key.2.1, key.2.2.1, key.2.2.2.1, key.2.2.2.2, by rw [key.2.2.2.2, List.take_append_drop]⟩
theorem getUM_put (n : Int) (h0 : 0 ≤ n) (h1 : n ≤ 1000000) (r : List Int) : getUM (uM n ++ r) = some (n, (uM n).length) := by
  have e : clampU n = n := by unfold clampU; rw [if_neg (by omega), if_neg (by omega)]
  unfold getUM uM
  rw [e]
  unfold groups
  by_cases c : n > 127
  · rw [if_pos c]
    by_cases c2 : n / 128 > 127
    · rw [if_pos c2]
      simp only [List.cons_append, List.nil_append, getUR, List.length_cons, List.length_nil]
      rw [if_pos (by omega), if_pos (by omega), if_neg (by omega), if_neg (by omega)]
      simp only [Int.pow_zero, Int.pow_succ, Int.one_mul, Int.mul_one, Int.zero_add, Nat.zero_add, Nat.reduceAdd]
      rw [if_neg (by omega)]
      congr 2
      omega
    · rw [if_neg c2]
      simp only [List.cons_append, List.nil_append, getUR, List.length_cons, List.length_nil]
      rw [if_pos (by omega), if_neg (by omega), if_neg (by omega)]
      simp only [Int.pow_zero, Int.pow_succ, Int.one_mul, Int.mul_one, Int.zero_add, Nat.zero_add, Nat.reduceAdd]
      rw [if_neg (by omega)]
      congr 2
      omega
  · rw [if_neg c]
    simp only [List.cons_append, List.nil_append, getUR, List.length_cons, List.length_nil]
    rw [if_neg (by omega), if_neg (by omega)]
    simp only [Int.pow_zero, Int.mul_one, Int.zero_add, Nat.zero_add]
    rw [if_neg (by omega)]
def lenOf (x : Int) : Int := if x < 128 then 127 - x else x - 128
def getTextM (r : List Int) : Option (ByteArray × Nat) := match getUM r with
  | none => none
  | some (n, c) => if n > (r.length : Int) - c then none else some (strOfNums ((r.drop c).take n.toNat), c + n.toNat)
theorem getTextM_exact {r : List Int} (hb : ∀ b ∈ r, 0 ≤ b ∧ b ≤ 255) {s : ByteArray} {c : Nat} (h : getTextM r = some (s, c)) : c ≤ r.length ∧ r = txtM s ++ r.drop c ∧ s.size ≤ c := by
  unfold getTextM at h
  cases hu : getUM r with
  | none => rw [hu] at h; cases h
  | some p =>
    obtain ⟨n, c0⟩ := p
    rw [hu] at h
    simp only at h
    have ⟨n0, n1, cl, c1, _, hr⟩ := getUM_exact hb hu
    split at h
    · cases h
    · rename_i hn
      simp only [Option.some.injEq, Prod.mk.injEq] at h
      obtain ⟨rfl, rfl⟩ := h
      have hl : ((r.drop c0).take n.toNat).length = n.toNat := by rw [List.length_take, List.length_drop]; omega
      have hbt : ∀ b ∈ (r.drop c0).take n.toNat, 0 ≤ b ∧ b ≤ 255 := fun b hm => hb b (List.mem_of_mem_drop (List.mem_of_mem_take hm))
      refine ⟨by omega, ?_, by rw [strOfNums_size, hl]; omega⟩
      unfold txtM
      rw [strOfNums_size, hl, bytesOf_strOf _ hbt, show ((n.toNat : Nat) : Int) = n by omega, List.append_assoc]
      have e : r.drop (c0 + n.toNat) = (r.drop c0).drop n.toNat := by rw [List.drop_drop]
      rw [e, List.take_append_drop]
      exact hr
def tripU (at_ : Nat) : Option (Int × Nat) → Int × Int × Bool
  | none => (0, 0, false)
  | some (n, c) => (n, ((at_ + c : Nat) : Int), true)
def tripT (at_ : Nat) : Option (ByteArray × Nat) → ByteArray × Int × Bool
  | none => (⟨#[]⟩, 0, false)
  | some (s, c) => (s, ((at_ + c : Nat) : Int), true)
theorem grp_bd (i : Nat) (hi : i ≤ 2) (y v : Int) (hy0 : 0 ≤ y) (hy1 : y ≤ 127) (h0 : 0 ≤ v) (h1 : v < 128 ^ i) : 0 ≤ v + y * 128 ^ i ∧ v + y * 128 ^ i < 128 ^ (i + 1) ∧ v + y * 128 ^ i ≤ 2097151 ∧ 0 ≤ y * 128 ^ i ∧ y * 128 ^ i ≤ 2097151 := by
  match i, hi with
  | 0, _ => simp only [Int.pow_zero, Int.pow_succ] at *; omega
  | 1, _ => simp only [Int.pow_zero, Int.pow_succ] at *; omega
  | 2, _ => simp only [Int.pow_zero, Int.pow_succ] at *; omega
theorem or_grp (i : Nat) (hi : i ≤ 2) (y v : Int) (hy0 : 0 ≤ y) (hy1 : y ≤ 127) (h0 : 0 ≤ v) (h1 : v < 128 ^ i) : Go.bits .or .i64 v (y * 128 ^ i) = v + y * 128 ^ i := by
  have b := grp_bd i hi y v hy0 hy1 h0 h1
  rw [or_comm_i64 _ _ h0 (by omega) b.2.2.2.1 (by omega)]
  have e : (128 : Int) ^ i = 2 ^ (7 * i) := by rw [Int.pow_mul]; rfl
  rw [e] at h1 b ⊢
  rw [or_add (7 * i) y v hy0 (by have : ((2 ^ 62 : Nat) : Int) = 4611686018427387904 := by decide
                                 omega) h0 h1 (by omega)]
  omega
theorem strOf_eq {a b : List Int} (ha : ∀ x ∈ a, 0 ≤ x ∧ x ≤ 255) (hb : ∀ x ∈ b, 0 ≤ x ∧ x ≤ 255) : (strOfNums a).toList = (strOfNums b).toList ↔ a = b := by
  rw [← bytesOf_inj, bytesOf_strOf a ha, bytesOf_strOf b hb]
end Go.Proofs.Ytllgmgpfdnofmaa.KitD
