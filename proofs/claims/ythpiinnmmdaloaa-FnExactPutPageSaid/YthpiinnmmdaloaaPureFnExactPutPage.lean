/- The law FnExactPutPage in plain words: what the printed functions answer, and that the two agree. Its conditions: the bounds that memory sets. -/
import Derived.Test.YthpiinnmmdaloaaPFnExactPutPagex3
import Derived.Test.YthpiinnmmdaloaaKit
import Derived.Test.YthpiinnmmdaloaaKitB
namespace Go.Proofs.Ythpiinnmmdaloaa.Pure
open Go.RowKit Go.Proofs.Ythpiinnmmdaloaa.PFnExactPutPage Go.Proofs.YthpiinnmmdaloaaW.PrintWords Go.Proofs.YthpiinnmmdaloaaW.PrintLast Go.Proofs.YthpiinnmmdaloaaW.PrintMore Go.Proofs.Ythpiinnmmdaloaa.Kit Go.Proofs.Ythpiinnmmdaloaa.KitB

theorem spec_l1In_eq (a b c : Int) : spec_l1In.f a b c = some (inB a b c) := by unfold spec_l1In.f inB; split <;> rfl

theorem spec_Crc_ev (l : List Int) (hs : l.length ≤ 281474976710656) (hb : ∀ b ∈ l, 0 ≤ b ∧ b ≤ 255) : Ev (fun k => spec_Crc.f k l) (crcM l) := by
  unfold spec_Crc.f
  have h := ev_listI0 (fun k (x : Nat) i => spec_Crc.l0 k l (x : Int) i) l (fun x _ => x < 2 ^ 32) (fun x _ r => ((crcFold x r ^^^ 4294967295 : Nat) : Int)) 4294967295 (by decide) ?_ ?_
  · exact h
  · intro x hI
    refine Ev.step (fun k => by rw [spec_Crc.l0]) ?_
    refine ev_neg (by omega) (ev_some ?_)
    exact xor_i64 x 4294967295 hI (by decide)
  · intro x i b r hI hi hx hd ih
    have hbb := hb b (List.mem_of_getElem? hx)
    refine Ev.step (fun k => by rw [spec_Crc.l0]) ?_
    refine ev_pos (by omega) (ev_pos (by omega) ?_)
    rw [show rd l (i : Int) = b from getD_at hx, wrap_id (by omega) (by omega)]
    obtain ⟨c, rfl⟩ := Int.eq_ofNat_of_zero_le hbb.1
    rw [xor_i64 x c hI (by omega)]
    refine ev_eight (fun k (y : Nat) j => spec_Crc.l1 k l (y : Int) (i : Int) j) _ ?_ (x ^^^ c) (Nat.xor_lt_two_pow hI (by omega)) ?_
    · intro y j hy hj ih2
      refine Ev.step (fun k => by rw [spec_Crc.l1]) ?_
      refine ev_pos (by omega) ?_
      rw [and1_i64 y hy, wrap_succ (by omega)]
      unfold crcStep at ih2
      refine ev_ite (fun h => ?_) (fun h => ?_)
      · rw [if_pos (by omega)] at ih2
        rw [show ((y : Int) / 2) = ((y / 2 : Nat) : Int) by omega, show ((2197175160 : Int)) = ((2197175160 : Nat) : Int) from rfl, xor_i64 (y / 2) 2197175160 (by omega) (by decide)]
        exact ih2
      · rw [if_neg (by omega)] at ih2
        rw [show ((y : Int) / 2) = ((y / 2 : Nat) : Int) by omega]
        exact ih2
    · refine Ev.step (fun k => by rw [spec_Crc.l1]) ?_
      refine ev_neg (by omega) ?_
      rw [wrap_succ (by omega)]
      exact ih (crcByte x c) (crcByte_lt hI hbb.2)

theorem spec_PutSum_ev (l : List Int) (hs : l.length < 140737488355310) (hb : ∀ b ∈ l, 0 ≤ b ∧ b ≤ 255) : Ev (fun k => spec_PutSum.f k l) (l ++ sum4 (crcM l)) := by
  unfold spec_PutSum.f
  refine Ev.bind (spec_Crc_ev l (by omega) hb) ?_
  refine Ev.bind (ev_c rfl) (ev_pos (by simp; omega) (Ev.bind (ev_c rfl) (Ev.bind (ev_c rfl) (ev_pos (by simp; omega) (ev_some rfl)))))

theorem spec_PutU_loop (s : List Int) (n : Int) (hs : s.length < 140737488355317) (h0 : 0 ≤ n) (h1 : n ≤ 1000000) : Ev (fun k => spec_PutU.l0 k n s) (s ++ groups n) := by
  refine ev_groups (fun k s n => spec_PutU.l0 k n s) ?_ ?_ s n hs h0 h1
  · intro s n r hs h0 h1 ih
    refine Ev.step (fun k => by rw [spec_PutU.l0]) ?_
    refine ev_pos h0 (ev_pos (by omega) ?_)
    rw [and127 n (by omega) (by omega), or128 _ (by omega) (by omega), show (n % 128 + 128) % 256 = n % 128 + 128 by omega]
    exact ih
  · intro s n hs h0 h1
    refine Ev.step (fun k => by rw [spec_PutU.l0]) ?_
    refine ev_neg (by omega) (ev_pos (by omega) (ev_some ?_))
    rw [show n % 256 = n by omega]
theorem spec_PutU_ev (l : List Int) (n : Int) (hs : l.length < 140737488355317) : Ev (fun k => spec_PutU.f k l n) (l ++ uM n) := by
  have hb := clampU_bd n
  unfold spec_PutU.f
  refine Ev.bind (ev_c rfl) (ev_pos (by simp; omega) (Ev.bind (ev_c rfl) ?_))
  simp only [List.nil_append]
  unfold uM
  refine ev_ite (fun h => ?_) (fun h => ?_)
  · have e : clampU n = 1000000 := by unfold clampU; rw [if_neg (by omega), if_pos h]
    rw [e]
    refine Ev.step (fun k => by rw [spec_PutU.j0]) (ev_neg (by omega) (Ev.step (fun k => by rw [spec_PutU.j1]) ?_))
    exact spec_PutU_loop _ _ hs (by omega) (by omega)
  · refine Ev.step (fun k => by rw [spec_PutU.j0]) (ev_ite (fun h2 => ?_) (fun h2 => ?_))
    · have e : clampU n = 0 := by unfold clampU; rw [if_pos h2]
      rw [e]
      exact Ev.step (fun k => by rw [spec_PutU.j1]) (spec_PutU_loop _ _ hs (by omega) (by omega))
    · have e : clampU n = n := by unfold clampU; rw [if_neg h2, if_neg h]
      rw [e]
      exact Ev.step (fun k => by rw [spec_PutU.j1]) (spec_PutU_loop _ _ hs (by omega) (by omega))

theorem spec_PutText_ev (l : List Int) (s : ByteArray) (hs : l.length + s.size < 140737488355310) : Ev (fun k => spec_PutText.f k l s) (l ++ uM s.size ++ bytesOf s) := by
  have hb := uM_len s.size
  unfold spec_PutText.f
  refine Ev.bind (spec_PutU_ev l _ (by omega)) (ev_pos (by simp only [List.length_append]; omega) (ev_some rfl))

theorem spec_PutPage_ev (n : Int) (l : List Int) (hs : l.length < 281474976710656) (hb : ∀ b ∈ l, 0 ≤ b ∧ b ≤ 255) : Ev (fun k => spec_PutPage.f k n l) (pageM n l) := by
  unfold spec_PutPage.f pageM
  refine Ev.bind (ev_c (spec_l1In_eq _ _ _)) ?_
  refine ev_ite (fun h => ?_) (fun h => ?_)
  · refine Ev.step (fun k => by rw [spec_PutPage.j0]) (ev_ite (fun c => ?_) (fun c => ?_))
    · rw [if_neg (by rw [decide_eq_true_eq] at c; omega)]; exact ev_some rfl
    · rw [if_pos (by rw [decide_eq_true_eq] at c; exact ⟨h, by omega⟩)]
      have hl : l.length ≤ 240 := by rw [decide_eq_true_eq] at c; omega
      have h1 := uM_len n
      have e := bytesOf_strOf l hb
      have e2 : (strOfNums l).size = l.length := strOfNums_size l
      have h2 := uM_len l.length
      have hp := spec_PutText_ev (uM n) (strOfNums l) (by omega)
      rw [e, e2] at hp
      refine Ev.bind (spec_PutU_ev [] n (by simp)) (Ev.bind hp (Ev.bind (spec_PutSum_ev _ (by simp only [List.length_append]; omega) ?_) (ev_some rfl)))
      exact pageBody_bytes n l hb
  · refine Ev.step (fun k => by rw [spec_PutPage.j0]) (ev_pos rfl ?_)
    rw [if_neg (fun c => h c.1)]; exact ev_some rfl

theorem laws_toByteS_ev (l : List Int) (hs : l.length ≤ 1048576) : Ev (fun k => laws_toByteS.f k l) l := by
  unfold laws_toByteS.f
  refine ev_pos (by omega) (ev_pos (by omega) ?_)
  refine ev_eq (ev_fill (fun k s i => laws_toByteS.l0 k l s i) l id ?_ ?_ _ (by simp)) (List.map_id l)
  · intro s hI
    refine Ev.step (fun k => by rw [laws_toByteS.l0]) ?_
    exact ev_neg (by omega) (ev_some rfl)
  · intro s i x r hI hi hx ih
    refine Ev.step (fun k => by rw [laws_toByteS.l0]) ?_
    refine ev_pos (by omega) (ev_pos (by omega) (ev_pos (by omega) ?_))
    rw [wrap_succ (by omega), show rd l (i : Int) = x from getD_at hx]
    exact ih

theorem impl_in_eq (a b c : Int) : impl_in.f a b c = some (inB a b c) := by unfold impl_in.f inB; split <;> rfl

theorem impl_Crc_ev (l : List Int) (hs : l.length ≤ 281474976710656) (hb : ∀ b ∈ l, 0 ≤ b ∧ b ≤ 255) : Ev (fun k => impl_Crc.f k l) (crcM l) := by
  unfold impl_Crc.f
  have h := ev_listI0 (fun k (x : Nat) i => impl_Crc.l0 k (x : Int) l (l.length : Int) i) l (fun x _ => x < 2 ^ 32) (fun x _ r => ((crcFold x r ^^^ 4294967295 : Nat) : Int)) 4294967295 (by decide) ?_ ?_
  · exact h
  · intro x hI
    refine Ev.step (fun k => by rw [impl_Crc.l0]) ?_
    refine ev_neg (by omega) (ev_some ?_)
    rw [show Go.bits .xor .u32 4294967295 (x : Int) = ((4294967295 ^^^ x : Nat) : Int) from xor_u32 4294967295 x (by decide) hI]
    have := Nat.xor_lt_two_pow (show 4294967295 < 2 ^ 32 by decide) hI
    rw [wrap_id (by omega) (by omega)]
    show _ = ((x ^^^ 4294967295 : Nat) : Int)
    rw [Nat.xor_comm]
  · intro x i b r hI hi hx hd ih
    have hbb := hb b (List.mem_of_getElem? hx)
    refine Ev.step (fun k => by rw [impl_Crc.l0]) ?_
    refine ev_pos (by omega) (ev_pos (by omega) (ev_pos (by omega) ?_))
    rw [show rd l (i : Int) = b from getD_at hx, show b % 4294967296 = b by omega]
    obtain ⟨c, rfl⟩ := Int.eq_ofNat_of_zero_le hbb.1
    rw [xor_u32 x c hI (by omega)]
    refine ev_eight (fun k (y : Nat) j => impl_Crc.l1 k (y : Int) l (l.length : Int) (i : Int) j) _ ?_ (x ^^^ c) (Nat.xor_lt_two_pow hI (by omega)) ?_
    · intro y j hy hj ih2
      refine Ev.step (fun k => by rw [impl_Crc.l1]) ?_
      refine ev_pos (by omega) ?_
      rw [and1_u32 y hy, wrap_succ (by omega)]
      unfold crcStep at ih2
      refine ev_ite (fun h => ?_) (fun h => ?_)
      · rw [if_pos (by omega)] at ih2
        rw [show ((y : Int) / 2) = ((y / 2 : Nat) : Int) by omega, show ((2197175160 : Int)) = ((2197175160 : Nat) : Int) from rfl, xor_u32 (y / 2) 2197175160 (by omega) (by decide)]
        exact ih2
      · rw [if_neg (by omega)] at ih2
        rw [show ((y : Int) / 2) = ((y / 2 : Nat) : Int) by omega]
        exact ih2
    · refine Ev.step (fun k => by rw [impl_Crc.l1]) ?_
      refine ev_neg (by omega) ?_
      rw [wrap_succ (by omega)]
      exact ih (crcByte x c) (crcByte_lt hI hbb.2)

theorem impl_addSum_ev (l : List Int) (hs : l.length < 140737488355310) (hb : ∀ b ∈ l, 0 ≤ b ∧ b ≤ 255) : Ev (fun k => impl_addSum.f k l) (l ++ sum4 (crcM l)) := by
  unfold impl_addSum.f
  refine Ev.bind (impl_Crc_ev l (by omega) hb) (Ev.bind (ev_c rfl) (ev_pos (by simp; omega) (ev_some rfl)))

theorem impl_addU_loop (s : List Int) (n : Int) (hs : s.length < 140737488355317) (h0 : 0 ≤ n) (h1 : n ≤ 1000000) : Ev (fun k => impl_addU.l0 k s n) (s ++ groups n) := by
  refine ev_groups (fun k s n => impl_addU.l0 k s n) ?_ ?_ s n hs h0 h1
  · intro s n r hs h0 h1 ih
    refine Ev.step (fun k => by rw [impl_addU.l0]) ?_
    refine ev_pos h0 (ev_pos (by omega) ?_)
    rw [Int.tmod_eq_emod_of_nonneg (by omega), Int.tdiv_eq_ediv_of_nonneg (by omega), wrap_id (by omega) (by omega), wrap_id (by omega) (by omega), show (n % 128 + 128) % 256 = n % 128 + 128 by omega]
    exact ih
  · intro s n hs h0 h1
    refine Ev.step (fun k => by rw [impl_addU.l0]) ?_
    refine ev_neg (by omega) (ev_pos (by omega) (ev_some ?_))
    rw [show n % 256 = n by omega]
theorem impl_addU_ev (l : List Int) (n : Int) (hs : l.length < 140737488355317) : Ev (fun k => impl_addU.f k l n) (l ++ uM n) := by
  have hb := clampU_bd n
  unfold impl_addU.f impl_clamp.f
  refine Ev.bind (ev_c rfl) ?_
  rw [clampU_mx]
  exact impl_addU_loop _ _ hs hb.1 hb.2

theorem impl_addText_ev (l : List Int) (s : ByteArray) (hs : l.length + s.size < 140737488355310) : Ev (fun k => impl_addText.f k l s) (l ++ uM s.size ++ bytesOf s) := by
  have hb := uM_len s.size
  unfold impl_addText.f
  refine Ev.bind (impl_addU_ev l _ (by omega)) (ev_pos (by simp only [List.length_append]; omega) (ev_some rfl))

theorem impl_PutPage_ev (n : Int) (l : List Int) (hs : l.length < 281474976710656) (hb : ∀ b ∈ l, 0 ≤ b ∧ b ≤ 255) : Ev (fun k => impl_PutPage.f k n l) (pageM n l) := by
  unfold impl_PutPage.f pageM
  refine Ev.bind (ev_c (impl_in_eq _ _ _)) ?_
  refine ev_ite (fun h => ?_) (fun h => ?_)
  · refine Ev.step (fun k => by rw [impl_PutPage.j0]) (ev_ite (fun c => ?_) (fun c => ?_))
    · rw [if_neg (by rw [decide_eq_true_eq] at c; omega)]; exact ev_some rfl
    · rw [if_pos (by rw [decide_eq_true_eq] at c; exact ⟨h, by omega⟩)]
      have hl : l.length ≤ 240 := by rw [decide_eq_true_eq] at c; omega
      have h1 := uM_len n
      have e := bytesOf_strOf l hb
      have e2 : (strOfNums l).size = l.length := strOfNums_size l
      have h2 := uM_len l.length
      have hp := impl_addText_ev (uM n) (strOfNums l) (by omega)
      rw [e, e2] at hp
      refine Ev.bind (impl_addU_ev [] n (by simp)) (Ev.bind hp (Ev.bind (impl_addSum_ev _ (by simp only [List.length_append]; omega) ?_) (ev_some rfl)))
      exact pageBody_bytes n l hb
  · refine Ev.step (fun k => by rw [impl_PutPage.j0]) (ev_pos rfl ?_)
    rw [if_neg (fun c => h c.1)]; exact ev_some rfl

theorem laws_eqByteS_self (l : List Int) (hs : l.length ≤ 281474976710656) : Ev (fun k => laws_eqByteS.f k l l) true := by
  unfold laws_eqByteS.f
  refine ev_pos rfl ?_
  refine ev_pass (fun k i => laws_eqByteS.l0 k l l i) l true ?_ ?_
  · refine Ev.step (fun k => by rw [laws_eqByteS.l0]) ?_
    exact ev_neg (by omega) (ev_some rfl)
  · intro i x hi hx ih
    refine Ev.step (fun k => by rw [laws_eqByteS.l0]) ?_
    refine ev_pos (by omega) (ev_pos (by omega) (ev_pos (by omega) (ev_pos rfl ?_)))
    rw [wrap_succ (by omega)]
    exact ih

def markB (m : Int) : Nat → List Int
  | 0 => []
  | n + 1 => (m % 256) :: markB (m + 1) n
theorem markB_len : ∀ (n : Nat) (m : Int), (markB m n).length = n
  | 0, _ => rfl
  | n + 1, m => by simp [markB, markB_len n]
theorem laws_markByteS_ev (l : List Int) (m : Int) (h0 : 0 ≤ m) (h1 : m ≤ 1000000000) (hs : l.length ≤ 1000000000) : Ev (fun k => laws_markByteS.f k l m) (m + l.length, markB m l.length) := by
  unfold laws_markByteS.f
  have h := ev_listI0 (fun k (s : List Int × Int) i => laws_markByteS.l0 k s.1 s.2 i) l (fun s i => s.1.length = l.length ∧ s.2 = m + i) (fun s i r => (m + l.length, s.1.take i ++ markB (m + i) r.length)) (l, m) (by simp) ?_ ?_
  · simpa using h
  · intro s ⟨hl, hm⟩
    refine Ev.step (fun k => by rw [laws_markByteS.l0]) ?_
    refine ev_neg (by omega) (ev_some ?_)
    rw [hm, ← hl, List.take_length]
    simp [markB]
  · intro s i x r ⟨hl, hm⟩ hi hx hd ih
    refine Ev.step (fun k => by rw [laws_markByteS.l0]) ?_
    refine ev_pos (by omega) (ev_pos (by omega) ?_)
    rw [wrap_succ (by omega), wrap_id (by omega) (by omega)]
    refine ev_eq (ih (s.1.set i (s.2 % 256), s.2 + 1) ⟨by simpa using hl, by simp only; omega⟩) ?_
    rw [List.length_cons, markB]
    congr 1
    rw [List.take_add_one, List.take_set_of_le (Nat.le_refl i), List.getElem?_set_self (by omega), hm]
    simp only [Option.toList_some, List.append_assoc, List.cons_append, List.nil_append]
    rw [show m + ((i + 1 : Nat) : Int) = m + (i : Int) + 1 by omega]

theorem markB_at : ∀ (n : Nat) (m : Int) (i : Nat), i < n → (markB m n)[i]? = some ((m + i) % 256)
  | 0, _, _, h => by omega
  | n + 1, m, 0, _ => by simp [markB]
  | n + 1, m, i + 1, h => by
    rw [markB, List.getElem?_cons_succ, markB_at n (m + 1) i (by omega)]
    rw [show m + 1 + (i : Int) = m + ((i + 1 : Nat) : Int) by omega]
theorem laws_heldByteS_ev (n : Nat) (m : Int) (h0 : 0 ≤ m) (h1 : m ≤ 1000000000) (hs : n ≤ 1000000000) : Ev (fun k => laws_heldByteS.f k (markB m n) m) (m + n) := by
  unfold laws_heldByteS.f
  have hl := markB_len n m
  have h := ev_listI0 (fun k (s : Int) i => laws_heldByteS.l0 k (markB m n) s i) (markB m n) (fun s i => s = m + i) (fun _ _ _ => m + n) m (by simp) ?_ ?_
  · exact h
  · intro s hm
    refine Ev.step (fun k => by rw [laws_heldByteS.l0]) ?_
    refine ev_neg (by omega) (ev_some ?_)
    rw [hm, hl]
  · intro s i x r hm hi hx hd ih
    refine Ev.step (fun k => by rw [laws_heldByteS.l0]) ?_
    have hx2 := markB_at n m i (by omega)
    refine ev_pos (by omega) (ev_pos (by omega) ?_)
    rw [show rd (markB m n) (i : Int) = (m + i) % 256 from getD_at hx2, hm]
    refine ev_pos rfl ?_
    rw [wrap_succ (by omega), wrap_id (by omega) (by omega)]
    exact ih _ (by omega)

theorem FnExactPutPage : ∀ (a0 : Int) (l1 : List Int), (-9223372036854775808 ≤ a0 ∧ a0 ≤ 9223372036854775807) → (l1.length * 1 ≤ 140737488351232 ∧ ∀ e0 ∈ l1, (0 ≤ e0 ∧ e0 ≤ 255)) → ∃ k, laws_FnExactPutPage.f k a0 l1 = some true := by
  intro n l _ hl0
  have hb : ∀ b ∈ l, 0 ≤ b ∧ b ≤ 255 := hl0.2
  refine Ev.rounds ?_
  unfold laws_FnExactPutPage.f
  refine ev_ite (fun _ => ev_some rfl) (fun h => ?_)
  have hl : l.length ≤ 1048576 := by omega
  have t := laws_toByteS_ev l hl
  have pl := pageM_len n l
  refine Ev.bind t (Ev.bind (spec_PutPage_ev n l (by omega) hb) ?_)
  refine Ev.bind t (Ev.bind (impl_PutPage_ev n l (by omega) hb) ?_)
  have e1 := laws_eqByteS_self (pageM n l) (by omega)
  refine Ev.bind e1 (ev_pos rfl ?_)
  refine Ev.bind t (Ev.bind (laws_eqByteS_self l (by omega)) (ev_pos rfl ?_))
  refine Ev.bind (laws_markByteS_ev l 1 (by omega) (by omega) (by omega)) ?_
  refine ev_neg (by simp only; omega) (Ev.bind e1 ?_)
  refine Ev.step (fun k => by rw [laws_FnExactPutPage.j0]) (ev_neg (by simp) ?_)
  refine Ev.bind (laws_markByteS_ev (pageM n l) 1 (by omega) (by omega) (by omega)) ?_
  have hh := laws_heldByteS_ev (pageM n l).length 1 (by omega) (by omega) (by omega)
  refine Ev.bind hh (ev_neg (by omega) (ev_pos rfl ?_))
  refine Ev.bind t (Ev.bind (impl_PutPage_ev n l (by omega) hb) (Ev.bind e1 (ev_pos rfl ?_)))
  exact Ev.bind hh (ev_neg (by omega) (ev_pos rfl (ev_some rfl)))

end Go.Proofs.Ythpiinnmmdaloaa.Pure
