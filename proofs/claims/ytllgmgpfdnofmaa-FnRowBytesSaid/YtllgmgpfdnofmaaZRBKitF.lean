/- Plain words: what is put is read again; a turned bit is seen by the sum. No condition. -/
import Derived.Test.YtllgmgpfdnofmaaZRBKitD
namespace Go.Proofs.Ytllgmgpfdnofmaa.KitF
open Go.RowKit Go.Proofs.YtllgmgpfdnofmaaW.PrintWords Go.Proofs.YtllgmgpfdnofmaaW.PrintMore Go.Proofs.Ytllgmgpfdnofmaa.Kit Go.Proofs.Ytllgmgpfdnofmaa.KitB Go.Proofs.Ytllgmgpfdnofmaa.KitC Go.Proofs.Ytllgmgpfdnofmaa.KitD

theorem getVarM_put (n : Int) (h0 : -1000000000000000 ≤ n) (h1 : n ≤ 1000000000000000) (r : List Int) : getVarM (varM n ++ r) = some (n, (varM n).length) := by
  have e : clampV n = n := by unfold clampV; rw [if_neg (by omega), if_neg (by omega)]
  unfold varM
  rw [e]
  by_cases c : n ≥ 0
  · rw [if_pos c]
    have l7 := beM_len 7 n
    have fb := foldB_be 7 n c (by omega)
    have hx : inB (128 + ((beM 7 n).length : Int)) 120 135 = true := inB_iff.2 (by omega)
    have hlen : lenOf (128 + ((beM 7 n).length : Int)) = ((beM 7 n).length : Int) := by unfold lenOf; rw [if_neg (by omega)]; omega
    have hd : decide (128 + ((beM 7 n).length : Int) < 128) = false := decide_eq_false (by omega)
    rw [List.cons_append]
    simp only [getVarM]
    rw [if_pos hx, hlen, hd, if_neg (by rw [List.length_append]; omega), Int.toNat_natCast, List.take_left]
    have ff : flipIf false (beM 7 n) = beM 7 n := rfl
    have nf : negIf false n = n := rfl
    rw [ff, fb, if_pos rfl, nf, if_pos (inB_iff.2 ⟨h0, h1⟩), List.length_cons, Nat.add_comm]
  · rw [if_neg c]
    have l7 := beM_len 7 (-1 - n)
    have fb := foldB_be 7 (-1 - n) (by omega) (by omega)
    have hx : inB (127 - ((beM 7 (-1 - n)).length : Int)) 120 135 = true := inB_iff.2 (by omega)
    have hlen : lenOf (127 - ((beM 7 (-1 - n)).length : Int)) = ((beM 7 (-1 - n)).length : Int) := by unfold lenOf; rw [if_pos (by omega)]; omega
    have hd : decide (127 - ((beM 7 (-1 - n)).length : Int) < 128) = true := decide_eq_true (by omega)
    have ff : flipIf true ((beM 7 (-1 - n)).map fun b => 255 - b) = beM 7 (-1 - n) := flipIf_flipIf true (beM 7 (-1 - n))
    have ht : (((beM 7 (-1 - n)).map fun b => 255 - b) ++ r).take (beM 7 (-1 - n)).length = (beM 7 (-1 - n)).map fun b => 255 - b := by
      have := List.take_left (l₁ := (beM 7 (-1 - n)).map fun b => 255 - b) (l₂ := r)
      rwa [List.length_map] at this
    have nf : negIf true (-1 - n) = n := by
      have : negIf true (-1 - n) = -1 - (-1 - n) := rfl
      omega
    rw [List.cons_append]
    simp only [getVarM]
    rw [if_pos hx, hlen, hd, if_neg (by rw [List.length_append, List.length_map]; omega), Int.toNat_natCast, ht, ff, fb, if_pos rfl, nf, if_pos (inB_iff.2 ⟨h0, h1⟩), List.length_cons, List.length_map, Nat.add_comm]
theorem strOf_bytesOf (s : ByteArray) : strOfNums (bytesOf s) = s := by
  have h : bytesOf (strOfNums (bytesOf s)) = bytesOf s := bytesOf_strOf _ (bytesOf_bytes s)
  have h2 := bytesOf_inj.1 h
  apply ByteArray.ext
  apply Array.toList_inj.1
  rw [ByteArray.toList_eq, ByteArray.toList_eq] at h2
  exact h2
theorem getTextM_put (s : ByteArray) (hs : s.size ≤ 1000000) (r : List Int) : getTextM (txtM s ++ r) = some (s, (txtM s).length) := by
  have hl := bytesOf_length s
  unfold getTextM txtM
  rw [List.append_assoc, getUM_put s.size (by omega) (by omega)]
  simp only
  rw [if_neg (by simp only [List.length_append]; omega), List.drop_left, Int.toNat_natCast]
  have e : (bytesOf s ++ r).take s.size = bytesOf s := by
    have := List.take_left (l₁ := bytesOf s) (l₂ := r)
    rwa [hl] at this
  rw [e, strOf_bytesOf, List.length_append, hl]
theorem valueM_put (k n : Int) (s : ByteArray) (ok : valOkM k n (bytesOf s) = true) (r : List Int) : valueM (valM k n s ++ r) = some (k, n, s, (valM k n s).length) := by
  have emp : bytesOf s = [] → s = ⟨#[]⟩ := by
    intro h
    rw [← strOf_bytesOf s, h]; rfl
  unfold valOkM at ok
  by_cases k0 : k = 0
  · rw [if_pos k0] at ok
    by_cases hn : n = 0
    · rw [if_pos hn] at ok
      have hs := emp (of_decide_eq_true ok)
      subst k0 hn hs
      unfold valueM valM
      rw [if_neg (by omega), if_neg (by omega), if_neg (by omega), List.append_nil, getUM_put 0 (by omega) (by omega)]
      rfl
    · rw [if_neg hn] at ok; cases ok
  rw [if_neg k0] at ok
  have big : ∀ lo hi : Int, -1000000000000000 ≤ lo → hi ≤ 1000000000000000 → (k = 1 ∨ k = 2) → (if inB n lo hi = true then decide (bytesOf s = []) else false) = true → valueM (valM k n s ++ r) = some (k, n, s, (valM k n s).length) := by
    intro lo hi h1 h2 hk h
    by_cases hb : inB n lo hi = true
    · rw [if_pos hb] at h
      have hb2 := inB_iff.1 hb
      have hs := emp (of_decide_eq_true h)
      subst hs
      unfold valueM valM
      rw [if_pos hk, List.append_assoc, getUM_put k (by omega) (by omega)]
      simp only
      rw [if_pos hk, List.drop_left, getVarM_put n (by omega) (by omega), List.length_append]
    · rw [if_neg hb] at h; cases h
  by_cases k1 : k = 1
  · rw [if_pos k1] at ok
    exact big _ _ (by omega) (by omega) (Or.inl k1) ok
  rw [if_neg k1] at ok
  by_cases k2 : k = 2
  · rw [if_pos k2] at ok
    exact big _ _ (by omega) (by omega) (Or.inr k2) ok
  rw [if_neg k2] at ok
  have k12 : ¬ (k = 1 ∨ k = 2) := fun h => h.elim k1 k2
  by_cases k3 : k = 3
  · rw [if_pos k3] at ok
    by_cases hn : n = 0
    · rw [if_pos hn] at ok
      have hs := of_decide_eq_true ok
      rw [bytesOf_length] at hs
      unfold valueM valM
      rw [if_neg k12, if_pos k3, List.append_assoc, getUM_put k (by omega) (by omega)]
      simp only
      rw [if_neg k12, if_pos k3, List.drop_left, getTextM_put s (by omega), List.length_append, hn]
    · rw [if_neg hn] at ok; cases ok
  rw [if_neg k3] at ok
  by_cases k4 : k = 4
  · rw [if_pos k4] at ok
    by_cases hb : inB n 0 1 = true
    · rw [if_pos hb] at ok
      have hb2 := inB_iff.1 hb
      have hs := emp (of_decide_eq_true ok)
      subst hs
      unfold valueM valM
      rw [if_neg k12, if_neg k3, if_pos k4, List.append_assoc, getUM_put k (by omega) (by omega)]
      simp only
      rw [if_neg k12, if_neg k3, if_pos k4, List.drop_left, show n % 256 = n by omega, List.length_append]
      rfl
    · rw [if_neg hb] at ok; cases ok
  · rw [if_neg k4] at ok; cases ok
/-! ### the sum is one-to-one in each byte -/
theorem crcStep_inj {x y : Nat} (hx : x < 2 ^ 32) (hy : y < 2 ^ 32) (h : crcStep x = crcStep y) : x = y := by
  have top : ∀ z, z < 2 ^ 32 → (crcStep z).testBit 31 = decide (z % 2 = 1) := by
    intro z hz
    have hh : (z / 2).testBit 31 = false := Nat.testBit_lt_two_pow (by omega)
    unfold crcStep
    by_cases c : z % 2 = 1
    · rw [if_pos c, Nat.testBit_xor, hh, decide_eq_true c]; rfl
    · rw [if_neg c, hh, decide_eq_false c]
  have t := congrArg (fun z => z.testBit 31) h
  simp only [top x hx, top y hy, decide_eq_decide] at t
  unfold crcStep at h
  by_cases c : x % 2 = 1
  · rw [if_pos c, if_pos (t.1 c)] at h
    have h2 := congrArg (fun z => z ^^^ 2197175160) h
    simp only [Nat.xor_assoc, Nat.xor_self, Nat.xor_zero] at h2
    have := t.1 c
    omega
  · have c2 : ¬ y % 2 = 1 := fun g => c (t.2 g)
    rw [if_neg c, if_neg c2] at h
    omega
theorem crcN_inj : ∀ (n : Nat) {x y : Nat}, x < 2 ^ 32 → y < 2 ^ 32 → crcN n x = crcN n y → x = y
  | 0, _, _, _, _, h => h
  | n + 1, _, _, hx, hy, h => crcStep_inj hx hy (crcN_inj n (crcStep_lt hx) (crcStep_lt hy) h)
theorem xor_lt {x : Nat} (hx : x < 2 ^ 32) {b : Int} (hb : b ≤ 255) : x ^^^ b.toNat < 2 ^ 32 := Nat.xor_lt_two_pow hx (by omega)
theorem xor_cancel {a b c : Nat} (h : a ^^^ b = a ^^^ c) : b = c := by
  have := congrArg (fun z => a ^^^ z) h
  simpa only [← Nat.xor_assoc, Nat.xor_self, Nat.zero_xor] using this
theorem crcByte_inj_state {x y : Nat} (hx : x < 2 ^ 32) (hy : y < 2 ^ 32) {b : Int} (hb : b ≤ 255) (h : crcByte x b = crcByte y b) : x = y := by
  have := crcN_inj 8 (xor_lt hx hb) (xor_lt hy hb) h
  rw [Nat.xor_comm x, Nat.xor_comm y] at this
  exact xor_cancel this
theorem crcByte_inj_byte {x : Nat} (hx : x < 2 ^ 32) {b c : Int} (hb0 : 0 ≤ b) (hb : b ≤ 255) (hc0 : 0 ≤ c) (hc : c ≤ 255) (h : crcByte x b = crcByte x c) : b = c := by
  have := xor_cancel (crcN_inj 8 (xor_lt hx hb) (xor_lt hx hc) h)
  omega
theorem crcFold_inj : ∀ (l : List Int) {x y : Nat}, x < 2 ^ 32 → y < 2 ^ 32 → (∀ b ∈ l, b ≤ 255) → crcFold x l = crcFold y l → x = y
  | [], _, _, _, _, _, h => h
  | b :: r, _, _, hx, hy, hl, h =>
    have hb := hl b List.mem_cons_self
    crcByte_inj_state hx hy hb (crcFold_inj r (crcByte_lt hx hb) (crcByte_lt hy hb) (fun c hc => hl c (List.mem_cons_of_mem _ hc)) h)
theorem crcM_turn (a d : List Int) (b c : Int) (ha : ∀ x ∈ a, x ≤ 255) (hd : ∀ x ∈ d, x ≤ 255) (hb0 : 0 ≤ b) (hb : b ≤ 255) (hc0 : 0 ≤ c) (hc : c ≤ 255) (h : crcM (a ++ b :: d) = crcM (a ++ c :: d)) : b = c := by
  unfold crcM at h
  have h1 : crcFold 4294967295 (a ++ b :: d) ^^^ 4294967295 = crcFold 4294967295 (a ++ c :: d) ^^^ 4294967295 := by exact_mod_cast h
  rw [Nat.xor_comm, Nat.xor_comm _ 4294967295] at h1
  have h2 := xor_cancel h1
  have e : ∀ z : Int, crcFold 4294967295 (a ++ z :: d) = crcFold (crcByte (crcFold 4294967295 a) z) d := by
    intro z
    unfold crcFold
    rw [List.foldl_append, List.foldl_cons]
  rw [e, e] at h2
  have hx : crcFold 4294967295 a < 2 ^ 32 := crcFold_lt a _ (by decide) ha
  exact crcByte_inj_byte hx hb0 hb hc0 hc (crcFold_inj d (crcByte_lt hx hb) (crcByte_lt hx hc) hd h2)
/-- Bytes with their sum, one byte turned: the sum is wrong. -/
theorem getSumM_turn (body : List Int) (p : Nat) (c z : Int) (hb : ∀ x ∈ body, 0 ≤ x ∧ x ≤ 255) (hz : (body ++ sum4 (crcM body))[p]? = some z) (hc0 : 0 ≤ c) (hc : c ≤ 255) (hne : c ≠ z) : getSumM ((body ++ sum4 (crcM body)).set p c) = ([], false) := by
  have l4 : (sum4 (crcM body)).length = 4 := rfl
  have hp : p < body.length + 4 := by
    have := (List.getElem?_eq_some_iff.1 hz).1
    rw [List.length_append, l4] at this
    exact this
  have hl : ((body ++ sum4 (crcM body)).set p c).length - 4 = body.length := by rw [List.length_set, List.length_append, l4]; omega
  unfold getSumM
  rw [if_neg (by rw [List.length_set, List.length_append, l4]; omega), hl]
  rw [if_neg]
  intro h
  by_cases c1 : p < body.length
  · rw [List.drop_set_of_lt c1, List.drop_left] at h
    have e1 : ((body ++ sum4 (crcM body)).set p c).take body.length = body.set p c := by
      rw [List.set_append_left _ _ c1]
      have := List.take_left (l₁ := body.set p c) (l₂ := sum4 (crcM body))
      rwa [List.length_set] at this
    rw [e1] at h
    have hz2 : body[p]? = some z := by rwa [List.getElem?_append_left c1] at hz
    have hz3 : body[p] = z := by rw [List.getElem?_eq_getElem c1, Option.some.injEq] at hz2; exact hz2
    have b1 : body = body.take p ++ z :: body.drop (p + 1) := by
      rw [← hz3, ← List.drop_eq_getElem_cons c1, List.take_append_drop]
    have b2 : body.set p c = body.take p ++ c :: body.drop (p + 1) := List.set_eq_take_append_cons_drop .. |>.trans (if_pos c1)
    have bz := hb z (List.mem_of_getElem? hz2)
    have hbc : ∀ x ∈ body.set p c, x ≤ 255 := by
      intro x hx
      rcases List.mem_or_eq_of_mem_set hx with hx | hx
      · exact (hb x hx).2
      · rw [hx]; exact hc
    have k1 := crcM_bd body (fun x hx => (hb x hx).2)
    have k2 := crcM_bd (body.set p c) hbc
    have k3 : crcM body = crcM (body.set p c) := by
      rw [← fold_sum4 _ k1.1 k1.2, ← fold_sum4 _ k2.1 k2.2, ← h, fold_sum4 _ k1.1 k1.2]
    rw [b2] at k3
    have k4 : crcM (body.take p ++ z :: body.drop (p + 1)) = crcM (body.take p ++ c :: body.drop (p + 1)) := by rw [← b1]; exact k3
    exact hne (crcM_turn _ _ z c (fun x hx => (hb x (List.mem_of_mem_take hx)).2) (fun x hx => (hb x (List.mem_of_mem_drop hx)).2) bz.1 bz.2 hc0 hc k4).symm
  · rw [List.take_set_of_le (by omega), List.take_left] at h
    have e1 : ((body ++ sum4 (crcM body)).set p c)[p]? = some c := List.getElem?_set_self (by rw [List.length_append, l4]; exact hp)
    have e2 : (((body ++ sum4 (crcM body)).set p c).drop body.length)[p - body.length]? = some c := by
      rw [List.getElem?_drop, show body.length + (p - body.length) = p by omega]
      exact e1
    rw [h] at e2
    rw [List.getElem?_append_right (by omega), e2, Option.some.injEq] at hz
    exact hne hz
theorem shl1_u8 (y : Int) (h0 : 0 ≤ y) (h1 : y ≤ 7) : ∃ q : Nat, 0 < q ∧ q < 256 ∧ shl .u8 1 y = (q : Int) := by
  have h : y = 0 ∨ y = 1 ∨ y = 2 ∨ y = 3 ∨ y = 4 ∨ y = 5 ∨ y = 6 ∨ y = 7 := by omega
  rcases h with e | e | e | e | e | e | e | e
  · exact ⟨1, by decide, by decide, by rw [e]; decide⟩
  · exact ⟨2, by decide, by decide, by rw [e]; decide⟩
  · exact ⟨4, by decide, by decide, by rw [e]; decide⟩
  · exact ⟨8, by decide, by decide, by rw [e]; decide⟩
  · exact ⟨16, by decide, by decide, by rw [e]; decide⟩
  · exact ⟨32, by decide, by decide, by rw [e]; decide⟩
  · exact ⟨64, by decide, by decide, by rw [e]; decide⟩
  · exact ⟨128, by decide, by decide, by rw [e]; decide⟩
theorem turned (c : Int) (q : Nat) (h0 : 0 ≤ c) (h1 : c ≤ 255) (q0 : 0 < q) (q1 : q < 256) : 0 ≤ Go.bits .xor .u8 c (q : Int) ∧ Go.bits .xor .u8 c (q : Int) ≤ 255 ∧ Go.bits .xor .u8 c (q : Int) ≠ c := by
  obtain ⟨n, rfl⟩ := Int.eq_ofNat_of_zero_le h0
  have hn : n < 2 ^ 8 := by omega
  rw [xor_u8 n q hn q1]
  have := Nat.xor_lt_two_pow hn (show q < 2 ^ 8 from q1)
  refine ⟨by omega, by omega, fun e => ?_⟩
  have e2 : n ^^^ q = n ^^^ 0 := by rw [Nat.xor_zero]; exact_mod_cast e
  have := xor_cancel e2
  omega
end Go.Proofs.Ytllgmgpfdnofmaa.KitF
