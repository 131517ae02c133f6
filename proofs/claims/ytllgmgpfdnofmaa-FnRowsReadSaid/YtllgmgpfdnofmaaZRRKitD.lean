import Derived.Test.YtllgmgpfdnofmaaZRRKitC
namespace Go.Proofs.Ytllgmgpfdnofmaa.KitD
open Go.RowKit Go.Proofs.YtllgmgpfdnofmaaW.PrintWords Go.Proofs.YtllgmgpfdnofmaaW.PrintMore Go.Proofs.Ytllgmgpfdnofmaa.Kit Go.Proofs.Ytllgmgpfdnofmaa.KitB Go.Proofs.Ytllgmgpfdnofmaa.KitC
theorem or_add (i : Nat) (a b : Int) (ha0 : 0 ≤ a) (ha : a * 2 ^ i < ((2 ^ 62 : Nat) : Int)) (hb0 : 0 ≤ b) (hb : b < 2 ^ i) (hi : i ≤ 60) : Go.bits .or .i64 (a * 2 ^ i) b = a * 2 ^ i + b := by
  obtain ⟨x, rfl⟩ := Int.eq_ofNat_of_zero_le ha0
  obtain ⟨y, rfl⟩ := Int.eq_ofNat_of_zero_le hb0
  have hy : y < 2 ^ i := by exact_mod_cast hb
  have e0 : ((x : Int) * 2 ^ i) = ((x * 2 ^ i : Nat) : Int) := by push_cast; rfl
  rw [e0] at ha ⊢
  have hx : x * 2 ^ i < 2 ^ 62 := Int.ofNat_lt.1 ha
  have hp : 2 ^ i ≤ 2 ^ 60 := Nat.pow_le_pow_right (by decide) hi
  have h := (bits_nat .i64 62 (by decide) wraps_i64 (x * 2 ^ i) y hx (by omega)).2
  have e := Nat.two_pow_add_eq_or_of_lt hy x
  rw [Nat.mul_comm (2 ^ i) x] at e
  rw [h, ← e]
  exact Int.natCast_add _ _
theorem or_byte (a b : Int) (ha0 : 0 ≤ a) (ha : a < 72057594037927936 / 4) (hb0 : 0 ≤ b) (hb : b < 256) : Go.bits .or .i64 (a * 256) b = a * 256 + b := or_add 8 a b ha0 (by omega) hb0 hb (by omega)
theorem or_comm_i64 (a b : Int) (ha0 : 0 ≤ a) (ha : a < 4611686018427387904) (hb0 : 0 ≤ b) (hb : b < 4611686018427387904) : Go.bits .or .i64 a b = Go.bits .or .i64 b a := by
  obtain ⟨x, rfl⟩ := Int.eq_ofNat_of_zero_le ha0
  obtain ⟨y, rfl⟩ := Int.eq_ofNat_of_zero_le hb0
  rw [(bits_nat .i64 62 (by decide) wraps_i64 x y (by omega) (by omega)).2, (bits_nat .i64 62 (by decide) wraps_i64 y x (by omega) (by omega)).2, Nat.or_comm]
theorem shl_at (x : Int) (i : Nat) (hi : i ≤ 2) (h0 : 0 ≤ x) (h1 : x ≤ 127) : shl .i64 x (7 * (i : Int)) = x * 128 ^ i := by
  have b : IntKind.i64.bits = 64 := rfl
  unfold shl
  have e : min (7 * (i : Int)).toNat IntKind.i64.bits = 7 * i := by omega
  rw [e, Int.pow_mul, show ((2 : Int) ^ 7) = 128 from rfl]
  match i, hi with
  | 0, _ => rw [Int.pow_zero]; exact wraps_i64 _ (by omega) (by omega)
  | 1, _ => rw [Int.pow_succ, Int.pow_zero]; exact wraps_i64 _ (by omega) (by omega)
  | 2, _ => rw [Int.pow_succ, Int.pow_succ, Int.pow_zero]; exact wraps_i64 _ (by omega) (by omega)
def getUR : Nat → Nat → Int → List Int → Option (Int × Nat)
  | 0, _, _, _ => none
  | _ + 1, _, _, [] => none
  | d + 1, i, v, x :: r => if x > 127 then getUR d (i + 1) (v + (x - 128) * 128 ^ i) r else if x = 0 ∧ i > 0 then none else if v + x * 128 ^ i > 1000000 then none else some (v + x * 128 ^ i, i + 1)
def getUM (r : List Int) : Option (Int × Nat) := getUR 3 0 0 r
theorem getUM_exact {r : List Int} (hb : ∀ b ∈ r, 0 ≤ b ∧ b ≤ 255) {n : Int} {c : Nat} (h : getUM r = some (n, c)) : 0 ≤ n ∧ n ≤ 1000000 ∧ c ≤ r.length ∧ 1 ≤ c ∧ uM n = r.take c ∧ r = uM n ++ r.drop c := by
  have key : 0 ≤ n ∧ n ≤ 1000000 ∧ c ≤ r.length ∧ 1 ≤ c ∧ uM n = r.take c := by
    unfold getUM at h
    match r with
    | [] => simp [getUR] at h
    | x :: r =>
      have hx := hb x List.mem_cons_self
      rw [getUR] at h
      by_cases c1 : x > 127
      · rw [if_pos c1] at h
        match r with
        | [] => simp [getUR] at h
        | y :: r =>
          have hy := hb y (by simp)
          rw [getUR] at h
          by_cases c2 : y > 127
          · rw [if_pos c2] at h
            match r with
            | [] => simp [getUR] at h
            | z :: r =>
              have hz := hb z (by simp)
              rw [getUR] at h
              by_cases c3 : z > 127
              · rw [if_pos c3] at h; simp [getUR] at h
              · rw [if_neg c3] at h
                by_cases c4 : z = 0 ∧ 0 + 1 + 1 > 0
                · rw [if_pos c4] at h; cases h
                · rw [if_neg c4] at h
                  split at h
                  · cases h
                  · rename_i c5
                    simp only [Option.some.injEq, Prod.mk.injEq] at h
                    obtain ⟨rfl, rfl⟩ := h
                    have hz0 : z ≠ 0 := fun e => c4 ⟨e, by omega⟩
                    simp only [Int.pow_zero, Int.pow_succ, Int.one_mul, Int.mul_one, Int.zero_add, Nat.zero_add, Nat.reduceAdd] at c5 ⊢
                    refine ⟨by omega, by omega, by simp, by omega, ?_⟩
                    unfold uM
                    rw [show clampU (x - 128 + (y - 128) * 128 + z * (128 * 128)) = x - 128 + (y - 128) * 128 + z * (128 * 128) by unfold clampU; rw [if_neg (by omega), if_neg (by omega)]]
                    unfold groups
                    rw [if_pos (by omega), if_pos (by omega)]
                    simp only [List.take_succ_cons, List.take_zero]
                    congr 1
                    · omega
                    · congr 1
                      · omega
                      · congr 1; omega
          · rw [if_neg c2] at h
            by_cases c4 : y = 0 ∧ 0 + 1 > 0
            · rw [if_pos c4] at h; cases h
            · rw [if_neg c4] at h
              split at h
              · cases h
              · rename_i c5
                simp only [Option.some.injEq, Prod.mk.injEq] at h
                obtain ⟨rfl, rfl⟩ := h
                have hy0 : y ≠ 0 := fun e => c4 ⟨e, by omega⟩
                simp only [Int.pow_zero, Int.pow_succ, Int.one_mul, Int.mul_one, Int.zero_add, Nat.zero_add, Nat.reduceAdd] at c5 ⊢
                refine ⟨by omega, by omega, by simp, by omega, ?_⟩
                unfold uM
                rw [show clampU (x - 128 + y * 128) = x - 128 + y * 128 by unfold clampU; rw [if_neg (by omega), if_neg (by omega)]]
                unfold groups
                rw [if_pos (by omega), if_neg (by omega)]
                simp only [List.take_succ_cons, List.take_zero]
                congr 1
                · omega
                · congr 1; omega
      · rw [if_neg c1] at h
        rw [if_neg (by omega)] at h
        split at h
        · cases h
        · rename_i c5
          simp only [Option.some.injEq, Prod.mk.injEq] at h
          obtain ⟨rfl, rfl⟩ := h
          simp only [Int.pow_zero, Int.mul_one, Int.zero_add, Nat.zero_add] at c5 ⊢
          refine ⟨by omega, by omega, by simp, by omega, ?_⟩
          unfold uM
          rw [show clampU x = x by unfold clampU; rw [if_neg (by omega), if_neg (by omega)]]
          unfold groups
          rw [if_neg (by omega)]
          simp
  exact ⟨key.1, key.2.1, key.2.2.1, key.2.2.2.1, key.2.2.2.2, by rw [key.2.2.2.2, List.take_append_drop]⟩
theorem snoc_ind {P : List Int → Prop} (h0 : P []) (h1 : ∀ l b, P l → P (l ++ [b])) (l : List Int) : P l := by
  have h : ∀ l : List Int, P l.reverse := by
    intro l
    induction l with
    | nil => exact h0
    | cons b l ih => rw [List.reverse_cons]; exact h1 _ _ ih
  have := h l.reverse
  rwa [List.reverse_reverse] at this
def foldB (v : Int) (l : List Int) : Int := l.foldl (fun a b => a * 256 + b) v
theorem foldB_snoc (v : Int) (l : List Int) (b : Int) : foldB v (l ++ [b]) = foldB v l * 256 + b := by unfold foldB; rw [List.foldl_append]; rfl
theorem foldB_bd (l : List Int) : (∀ b ∈ l, 0 ≤ b ∧ b ≤ 255) → 0 ≤ foldB 0 l ∧ foldB 0 l < 256 ^ l.length := by
  refine snoc_ind (P := fun l => (∀ b ∈ l, 0 ≤ b ∧ b ≤ 255) → 0 ≤ foldB 0 l ∧ foldB 0 l < 256 ^ l.length) ?_ ?_ l
  · intro _; simp [foldB]
  · intro l b ih hb
    have i := ih (fun x hx => hb x (by simp [hx]))
    have h := hb b (by simp)
    rw [foldB_snoc, List.length_append, List.length_singleton, Int.pow_succ]
    omega
theorem digM_fold (l : List Int) : (∀ b ∈ l, 0 ≤ b ∧ b ≤ 255) → digM (foldB 0 l) l.length = l := by
  refine snoc_ind (P := fun l => (∀ b ∈ l, 0 ≤ b ∧ b ≤ 255) → digM (foldB 0 l) l.length = l) ?_ ?_ l
  · intro _; rfl
  · intro l b ih hb
    have i := ih (fun x hx => hb x (by simp [hx]))
    have h := hb b (by simp)
    rw [foldB_snoc, List.length_append, List.length_singleton, digM_succ]
    rw [show (foldB 0 l * 256 + b) / 256 = foldB 0 l by omega, show (foldB 0 l * 256 + b) % 256 = b by omega, i]
theorem beM_fold (l : List Int) (hb : ∀ b ∈ l, 0 ≤ b ∧ b ≤ 255) (h : (beM 7 (foldB 0 l)).length = l.length) : beM 7 (foldB 0 l) = l := by
  rw [beM_dig, h, digM_fold l hb]
def flipIf (b : Bool) (l : List Int) : List Int := if b = true then l.map (fun x => 255 - x) else l
theorem flipIf_bytes (b : Bool) {l : List Int} (h : ∀ x ∈ l, 0 ≤ x ∧ x ≤ 255) : ∀ x ∈ flipIf b l, 0 ≤ x ∧ x ≤ 255 := by
  intro x hx
  unfold flipIf at hx
  split at hx
  · obtain ⟨y, hy, rfl⟩ := List.mem_map.1 hx
    have := h y hy
    omega
  · exact h x hx
theorem flipIf_len (b : Bool) (l : List Int) : (flipIf b l).length = l.length := by unfold flipIf; split <;> simp
theorem flipIf_flipIf (b : Bool) (l : List Int) : flipIf b (flipIf b l) = l := by
  cases b
  · rfl
  · unfold flipIf
    rw [if_pos rfl, if_pos rfl, List.map_map]
    have : ((fun x : Int => 255 - x) ∘ fun x => 255 - x) = id := by funext x; simp only [Function.comp, id]; omega
    rw [this, List.map_id]
def lenOf (x : Int) : Int := if x < 128 then 127 - x else x - 128
def negIf (b : Bool) (v : Int) : Int := if b = true then -1 - v else v
def getVarM : List Int → Option (Int × Nat)
  | [] => none
  | x :: t =>
    if inB x 120 135 = true then
      (if (t.length : Int) < lenOf x then none else
        let bs := flipIf (decide (x < 128)) (t.take (lenOf x).toNat)
        let v := foldB 0 bs
        if ((beM 7 v).length : Int) = lenOf x then
          (if inB (negIf (decide (x < 128)) v) (-1000000000000000) 1000000000000000 = true then some (negIf (decide (x < 128)) v, 1 + (lenOf x).toNat) else none)
        else none)
    else none
theorem getVarM_exact {r : List Int} (hb : ∀ b ∈ r, 0 ≤ b ∧ b ≤ 255) {n : Int} {c : Nat} (h : getVarM r = some (n, c)) : c ≤ r.length ∧ r = varM n ++ r.drop c ∧ -1000000000000000 ≤ n ∧ n ≤ 1000000000000000 := by
  match r with
  | [] => cases h
  | x :: t =>
    simp only [getVarM] at h
    split at h
    · rename_i hx
      have hx := inB_iff.1 hx
      have hl : 0 ≤ lenOf x ∧ lenOf x ≤ 7 := by unfold lenOf; split <;> omega
      split at h
      · cases h
      · rename_i ht
        split at h
        · rename_i hc
          split at h
          · rename_i hv
            have hv := inB_iff.1 hv
            simp only [Option.some.injEq, Prod.mk.injEq] at h
            obtain ⟨rfl, rfl⟩ := h
            have hbt : ∀ b ∈ t.take (lenOf x).toNat, 0 ≤ b ∧ b ≤ 255 := fun b hm => hb b (List.mem_cons_of_mem _ (List.mem_of_mem_take hm))
            have hbs := flipIf_bytes (decide (x < 128)) hbt
            have hlen : (flipIf (decide (x < 128)) (t.take (lenOf x).toNat)).length = (lenOf x).toNat := by rw [flipIf_len, List.length_take]; omega
            have e := beM_fold _ hbs (by rw [hlen]; omega)
            have bd := (foldB_bd _ hbs).1
            refine ⟨by rw [List.length_cons]; omega, ?_, hv.1, hv.2⟩
            have e2 : (x :: t).drop (1 + (lenOf x).toNat) = t.drop (lenOf x).toNat := by rw [Nat.add_comm]; rfl
            rw [e2]
            have e3 : varM (negIf (decide (x < 128)) (foldB 0 (flipIf (decide (x < 128)) (t.take (lenOf x).toNat)))) = x :: t.take (lenOf x).toNat := by
              unfold varM
              rw [show clampV (negIf (decide (x < 128)) (foldB 0 (flipIf (decide (x < 128)) (t.take (lenOf x).toNat)))) = negIf (decide (x < 128)) (foldB 0 (flipIf (decide (x < 128)) (t.take (lenOf x).toNat))) by unfold clampV; rw [if_neg (by omega), if_neg (by omega)]]
              by_cases c : x < 128
              · rw [decide_eq_true c] at *
                simp only [negIf, if_true] at *
                rw [if_neg (by omega)]
                rw [show -1 - (-1 - foldB 0 (flipIf true (t.take (lenOf x).toNat))) = foldB 0 (flipIf true (t.take (lenOf x).toNat)) by omega, hc, e]
                have e4 := flipIf_flipIf true (t.take (lenOf x).toNat)
                rw [show (flipIf true (t.take (lenOf x).toNat)).map (fun b => 255 - b) = t.take (lenOf x).toNat from e4]
                congr 1
                unfold lenOf; rw [if_pos c]; omega
              · rw [decide_eq_false c] at *
                simp only [negIf, Bool.false_eq_true, if_false] at *
                rw [if_pos bd, hc, e]
                have : flipIf false (t.take (lenOf x).toNat) = t.take (lenOf x).toNat := rfl
                rw [this]
                congr 1
                unfold lenOf; rw [if_neg c]; omega
            rw [e3, List.cons_append, List.take_append_drop]
          · cases h
        · cases h
    · cases h
def getTextM (r : List Int) : Option (ByteArray × Nat) := match getUM r with
  | none => none
  | some (n, c) => if n > (r.length : Int) - c then none else some (strOfNums ((r.drop c).take n.toNat), c + n.toNat)
theorem getTextM_exact {r : List Int} (hb : ∀ b ∈ r, 0 ≤ b ∧ b ≤ 255) {s : ByteArray} {c : Nat} (h : getTextM r = some (s, c)) : c ≤ r.length ∧ r = txtM s ++ r.drop c ∧ s.size ≤ c := by
  unfold getTextM at h
  cases hu : getUM r with
  | none => rw [hu] at h; cases h
  | some p =>
    obtain ⟨n, c0⟩ := p
    rw [hu] at h
    simp only at h
    have ⟨n0, n1, cl, c1, _, hr⟩ := getUM_exact hb hu
    split at h
    · cases h
    · rename_i hn
      simp only [Option.some.injEq, Prod.mk.injEq] at h
      obtain ⟨rfl, rfl⟩ := h
      have hl : ((r.drop c0).take n.toNat).length = n.toNat := by rw [List.length_take, List.length_drop]; omega
      have hbt : ∀ b ∈ (r.drop c0).take n.toNat, 0 ≤ b ∧ b ≤ 255 := fun b hm => hb b (List.mem_of_mem_drop (List.mem_of_mem_take hm))
      refine ⟨by omega, ?_, by rw [strOfNums_size, hl]; omega⟩
      unfold txtM
      rw [strOfNums_size, hl, bytesOf_strOf _ hbt, show ((n.toNat : Nat) : Int) = n by omega, List.append_assoc]
      have e : r.drop (c0 + n.toNat) = (r.drop c0).drop n.toNat := by rw [List.drop_drop]
      rw [e, List.take_append_drop]
      exact hr
def valueM (r : List Int) : Option (Int × Int × ByteArray × Nat) := match getUM r with
  | none => none
  | some (k, c) =>
    if k = 1 ∨ k = 2 then (match getVarM (r.drop c) with | none => none | some (n, c2) => some (k, n, ⟨#[]⟩, c + c2))
    else if k = 3 then (match getTextM (r.drop c) with | none => none | some (s, c2) => some (k, 0, s, c + c2))
    else if k = 4 then (match r.drop c with | [] => none | x :: _ => some (k, x, ⟨#[]⟩, c + 1))
    else some (k, 0, ⟨#[]⟩, c)
theorem valueM_exact {r : List Int} (hb : ∀ b ∈ r, 0 ≤ b ∧ b ≤ 255) {k n : Int} {s : ByteArray} {c : Nat} (h : valueM r = some (k, n, s, c)) : c ≤ r.length ∧ r = valM k n s ++ r.drop c ∧ s.size ≤ c := by
  unfold valueM at h
  cases hu : getUM r with
  | none => rw [hu] at h; cases h
  | some p =>
    obtain ⟨k0, c0⟩ := p
    rw [hu] at h
    simp only at h
    have ⟨_, _, cl, c1, _, hr⟩ := getUM_exact hb hu
    have hbd : ∀ b ∈ r.drop c0, 0 ≤ b ∧ b ≤ 255 := fun b hm => hb b (List.mem_of_mem_drop hm)
    have fin : ∀ (t : List Int) (c2 : Nat), r.drop c0 = t ++ (r.drop c0).drop c2 → r = uM k0 ++ t ++ r.drop (c0 + c2) := by
      intro t c2 ht
      rw [List.append_assoc, ← List.drop_drop, ← ht]
      exact hr
    unfold valM
    split at h
    · rename_i hk
      cases hv : getVarM (r.drop c0) with
      | none => rw [hv] at h; cases h
      | some q =>
        obtain ⟨n2, c2⟩ := q
        rw [hv] at h
        simp only [Option.some.injEq, Prod.mk.injEq] at h
        obtain ⟨rfl, rfl, rfl, rfl⟩ := h
        have ⟨e1, e2, _, _⟩ := getVarM_exact hbd hv
        rw [List.length_drop] at e1
        rw [if_pos hk]
        exact ⟨by omega, fin _ _ e2, by show 0 ≤ _; omega⟩
    · rename_i hk
      rw [if_neg (by
        intro hk2
        split at h
        · cases hv : getTextM (r.drop c0) with
          | none => rw [hv] at h; cases h
          | some q => rw [hv] at h; simp only [Option.some.injEq, Prod.mk.injEq] at h; exact hk (h.1 ▸ hk2)
        · split at h
          · split at h
            · cases h
            · simp only [Option.some.injEq, Prod.mk.injEq] at h; exact hk (h.1 ▸ hk2)
          · simp only [Option.some.injEq, Prod.mk.injEq] at h; exact hk (h.1 ▸ hk2))]
      split at h
      · rename_i hk3
        cases hv : getTextM (r.drop c0) with
        | none => rw [hv] at h; cases h
        | some q =>
          obtain ⟨s2, c2⟩ := q
          rw [hv] at h
          simp only [Option.some.injEq, Prod.mk.injEq] at h
          obtain ⟨rfl, rfl, rfl, rfl⟩ := h
          have ⟨e1, e2, e3⟩ := getTextM_exact hbd hv
          rw [List.length_drop] at e1
          rw [if_pos hk3]
          exact ⟨by omega, fin _ _ e2, by omega⟩
      · rename_i hk3
        split at h
        · rename_i hk4
          cases hd : r.drop c0 with
          | nil => rw [hd] at h; cases h
          | cons x t =>
            rw [hd] at h
            simp only [Option.some.injEq, Prod.mk.injEq] at h
            obtain ⟨rfl, rfl, rfl, rfl⟩ := h
            have hx := hbd x (by rw [hd]; simp)
            have hlen : (r.drop c0).length = t.length + 1 := by rw [hd]; rfl
            rw [List.length_drop] at hlen
            rw [if_neg hk3, if_pos hk4, show x % 256 = x by omega]
            exact ⟨by omega, fin _ _ (by rw [hd]; rfl), by show 0 ≤ _; omega⟩
        · rename_i hk4
          simp only [Option.some.injEq, Prod.mk.injEq] at h
          obtain ⟨rfl, rfl, rfl, rfl⟩ := h
          rw [if_neg hk3, if_neg hk4, List.append_nil]
          exact ⟨cl, hr, by show 0 ≤ _; omega⟩
def tripU (at_ : Nat) : Option (Int × Nat) → Int × Int × Bool
  | none => (0, 0, false)
  | some (n, c) => (n, ((at_ + c : Nat) : Int), true)
def tripT (at_ : Nat) : Option (ByteArray × Nat) → ByteArray × Int × Bool
  | none => (⟨#[]⟩, 0, false)
  | some (s, c) => (s, ((at_ + c : Nat) : Int), true)
theorem grp_bd (i : Nat) (hi : i ≤ 2) (y v : Int) (hy0 : 0 ≤ y) (hy1 : y ≤ 127) (h0 : 0 ≤ v) (h1 : v < 128 ^ i) : 0 ≤ v + y * 128 ^ i ∧ v + y * 128 ^ i < 128 ^ (i + 1) ∧ v + y * 128 ^ i ≤ 2097151 ∧ 0 ≤ y * 128 ^ i ∧ y * 128 ^ i ≤ 2097151 := by
  match i, hi with
  | 0, _ => simp only [Int.pow_zero, Int.pow_succ] at *; omega
  | 1, _ => simp only [Int.pow_zero, Int.pow_succ] at *; omega
  | 2, _ => simp only [Int.pow_zero, Int.pow_succ] at *; omega
theorem or_grp (i : Nat) (hi : i ≤ 2) (y v : Int) (hy0 : 0 ≤ y) (hy1 : y ≤ 127) (h0 : 0 ≤ v) (h1 : v < 128 ^ i) : Go.bits .or .i64 v (y * 128 ^ i) = v + y * 128 ^ i := by
  have b := grp_bd i hi y v hy0 hy1 h0 h1
  rw [or_comm_i64 _ _ h0 (by omega) b.2.2.2.1 (by omega)]
  have e : (128 : Int) ^ i = 2 ^ (7 * i) := by rw [Int.pow_mul]; rfl
  rw [e] at h1 b ⊢
  rw [or_add (7 * i) y v hy0 (by have : ((2 ^ 62 : Nat) : Int) = 4611686018427387904 := by decide
                                 omega) h0 h1 (by omega)]
  omega
theorem pow256 (i : Nat) (hi : i ≤ 6) : (256 : Int) ^ i ≤ 281474976710656 := by
  match i, hi with
  | 0, _ => decide
  | 1, _ => decide
  | 2, _ => decide
  | 3, _ => decide
  | 4, _ => decide
  | 5, _ => decide
  | 6, _ => decide
theorem pow256_7 (i : Nat) (hi : i ≤ 7) : (256 : Int) ^ i ≤ 256 ^ 7 := by
  by_cases h : i = 7
  · rw [h]; exact Int.le_refl _
  · exact Int.le_trans (pow256 i (by omega)) (by decide)
theorem ev_foldB {α : Type} (L : Nat → Int → Int → Option α) (l : List Int) (hl : l.length ≤ 7) (f : Int → Int) (hf : ∀ b ∈ l, 0 ≤ f b ∧ f b ≤ 255) (F : Int → α)
    (base : ∀ v, Ev (fun k => L k v (l.length : Int)) (F v))
    (step : ∀ v i x r, 0 ≤ v → v ≤ 281474976710656 → i < l.length → l[i]? = some x → Ev (fun k => L k (v * 256 + f x) ((i + 1 : Nat) : Int)) r → Ev (fun k => L k v (i : Int)) r) :
    Ev (fun k => L k 0 0) (F (foldB 0 (l.map f))) := by
  refine ev_listI0 L l (fun v i => 0 ≤ v ∧ v < 256 ^ i) (fun v _ r => F (foldB v (r.map f))) 0 ⟨by omega, by simp⟩ ?_ ?_
  · intro v _
    exact base v
  · intro v i x r ⟨h0, h1⟩ hi hx hd ih
    have p := pow256 i (by omega)
    have b := hf x (List.mem_of_getElem? hx)
    refine step v i x _ h0 (by omega) hi hx ?_
    refine ih (v * 256 + f x) ⟨by omega, ?_⟩
    rw [Int.pow_succ]
    omega
def getSumM (b : List Int) : List Int × Bool :=
  if b.length < 4 then ([], false) else if b.drop (b.length - 4) = sum4 (crcM (b.take (b.length - 4))) then (b.take (b.length - 4), true) else ([], false)
theorem strOf_eq {a b : List Int} (ha : ∀ x ∈ a, 0 ≤ x ∧ x ≤ 255) (hb : ∀ x ∈ b, 0 ≤ x ∧ x ≤ 255) : (strOfNums a).toList = (strOfNums b).toList ↔ a = b := by
  rw [← bytesOf_inj, bytesOf_strOf a ha, bytesOf_strOf b hb]
theorem fold_sum4 (c : Int) (h0 : 0 ≤ c) (h1 : c < 4294967296) : foldB 0 (sum4 c) = c := by
  simp only [foldB, sum4, List.foldl_cons, List.foldl_nil]; omega
theorem sum4_fold {l : List Int} (hl : l.length = 4) (hb : ∀ b ∈ l, 0 ≤ b ∧ b ≤ 255) : sum4 (foldB 0 l) = l := by
  match l, hl with
  | [x, y, z, w], _ =>
    have h1 := hb x (by simp)
    have h2 := hb y (by simp)
    have h3 := hb z (by simp)
    have h4 := hb w (by simp)
    simp only [foldB, sum4, List.foldl_cons, List.foldl_nil]
    congr 1
    · omega
    · congr 1
      · omega
      · congr 1
        · omega
        · congr 1; omega
end Go.Proofs.Ytllgmgpfdnofmaa.KitD
