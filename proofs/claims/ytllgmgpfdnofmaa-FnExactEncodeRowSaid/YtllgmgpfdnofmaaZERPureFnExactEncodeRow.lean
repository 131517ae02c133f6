/- The law FnExactEncodeRow in plain words: what the printed functions answer, and that the two agree. Its conditions: the bounds that memory sets. -/
import Derived.Test.YtllgmgpfdnofmaaZERPFnExactEncodeRowx9
import Derived.Test.YtllgmgpfdnofmaaZERKit
import Derived.Test.YtllgmgpfdnofmaaZERKitB
import Derived.Test.YtllgmgpfdnofmaaZERKitC
namespace Go.Proofs.Ytllgmgpfdnofmaa.Pure
open Go.RowKit Go.Proofs.Ytllgmgpfdnofmaa.PFnExactEncodeRow Go.Proofs.YtllgmgpfdnofmaaW.PrintWords Go.Proofs.YtllgmgpfdnofmaaW.PrintLast Go.Proofs.YtllgmgpfdnofmaaW.PrintMore Go.Proofs.Ytllgmgpfdnofmaa.Kit Go.Proofs.Ytllgmgpfdnofmaa.KitB Go.Proofs.Ytllgmgpfdnofmaa.KitC

theorem laws_eqByteS_self (l : List Int) (hs : l.length ≤ 281474976710656) : Ev (fun k => laws_eqByteS.f k l l) true := by
  unfold laws_eqByteS.f
  refine ev_pos rfl ?_
  refine ev_pass (fun k i => laws_eqByteS.l0 k l l i) l true ?_ ?_
  · refine Ev.step (fun k => by rw [laws_eqByteS.l0]) ?_
    exact ev_neg (by omega) (ev_some rfl)
  · intro i x hi hx ih
    refine Ev.step (fun k => by rw [laws_eqByteS.l0]) ?_
    refine ev_pos (by omega) (ev_pos (by omega) (ev_pos (by omega) (ev_pos rfl ?_)))
    rw [wrap_succ (by omega)]
    exact ih

def markB (m : Int) : Nat → List Int
  | 0 => []
  | n + 1 => (m % 256) :: markB (m + 1) n
theorem markB_len : ∀ (n : Nat) (m : Int), (markB m n).length = n
  | 0, _ => rfl
  | n + 1, m => by simp [markB, markB_len n]
theorem laws_markByteS_ev (l : List Int) (m : Int) (h0 : 0 ≤ m) (h1 : m ≤ 1000000000) (hs : l.length ≤ 1000000000) : Ev (fun k => laws_markByteS.f k l m) (m + l.length, markB m l.length) := by
  unfold laws_markByteS.f
  have h := ev_listI0 (fun k (s : List Int × Int) i => laws_markByteS.l0 k s.1 s.2 i) l (fun s i => s.1.length = l.length ∧ s.2 = m + i) (fun s i r => (m + l.length, s.1.take i ++ markB (m + i) r.length)) (l, m) (by simp) ?_ ?_
  · simpa using h
  · intro s ⟨hl, hm⟩
    refine Ev.step (fun k => by rw [laws_markByteS.l0]) ?_
    refine ev_neg (by omega) (ev_some ?_)
    rw [hm, ← hl, List.take_length]
    simp [markB]
  · intro s i x r ⟨hl, hm⟩ hi hx hd ih
    refine Ev.step (fun k => by rw [laws_markByteS.l0]) ?_
    refine ev_pos (by omega) (ev_pos (by omega) ?_)
    rw [wrap_succ (by omega), wrap_id (by omega) (by omega)]
    refine ev_eq (ih (s.1.set i (s.2 % 256), s.2 + 1) ⟨by simpa using hl, by simp only; omega⟩) ?_
    rw [List.length_cons, markB]
    congr 1
    rw [List.take_add_one, List.take_set_of_le (Nat.le_refl i), List.getElem?_set_self (by omega), hm]
    simp only [Option.toList_some, List.append_assoc, List.cons_append, List.nil_append]
    rw [show m + ((i + 1 : Nat) : Int) = m + (i : Int) + 1 by omega]

theorem markB_at : ∀ (n : Nat) (m : Int) (i : Nat), i < n → (markB m n)[i]? = some ((m + i) % 256)
  | 0, _, _, h => by omega
  | n + 1, m, 0, _ => by simp [markB]
  | n + 1, m, i + 1, h => by
    rw [markB, List.getElem?_cons_succ, markB_at n (m + 1) i (by omega)]
    rw [show m + 1 + (i : Int) = m + ((i + 1 : Nat) : Int) by omega]
theorem laws_heldByteS_ev (n : Nat) (m : Int) (h0 : 0 ≤ m) (h1 : m ≤ 1000000000) (hs : n ≤ 1000000000) : Ev (fun k => laws_heldByteS.f k (markB m n) m) (m + n) := by
  unfold laws_heldByteS.f
  have hl := markB_len n m
  have h := ev_listI0 (fun k (s : Int) i => laws_heldByteS.l0 k (markB m n) s i) (markB m n) (fun s i => s = m + i) (fun _ _ _ => m + n) m (by simp) ?_ ?_
  · exact h
  · intro s hm
    refine Ev.step (fun k => by rw [laws_heldByteS.l0]) ?_
    refine ev_neg (by omega) (ev_some ?_)
    rw [hm, hl]
  · intro s i x r hm hi hx hd ih
    refine Ev.step (fun k => by rw [laws_heldByteS.l0]) ?_
    have hx2 := markB_at n m i (by omega)
    refine ev_pos (by omega) (ev_pos (by omega) ?_)
    rw [show rd (markB m n) (i : Int) = (m + i) % 256 from getD_at hx2, hm]
    refine ev_pos rfl ?_
    rw [wrap_succ (by omega), wrap_id (by omega) (by omega)]
    exact ih _ (by omega)

theorem laws_szPartS_eq (l : List (S121)) (left : Int) (h0 : 0 ≤ left) (h1 : left ≤ 1048576) (hs : l.length ≤ 140737488351232) : laws_szPartS.f l left = some (szL left [l.length]) := by
  unfold laws_szPartS.f
  simp only [szL]
  rw [wrap_id (by omega) (by omega)]
  split <;> rfl

theorem laws_szVal_eq (a b : Int) (s : ByteArray) (left : Int) (h0 : 0 ≤ left) (h1 : left ≤ 1048576) (hs : s.size ≤ 140737488351232) : laws_szVal.f a b s left = some (szL left [s.size]) := by
  unfold laws_szVal.f
  simp only [szL]
  rw [wrap_id (by omega) (by omega)]
  split <;> rfl

theorem laws_szValS_ev (l : List (S114)) (left : Int) (h0 : 0 ≤ left) (h1 : left ≤ 1048576) (hs : l.length ≤ 140737488351232) (he : ∀ x ∈ l, x.f2.size ≤ 140737488351232) :
    Ev (fun k => laws_szValS.f k l left) (szL left (l.length :: l.map fun x => x.f2.size)) := by
  unfold laws_szValS.f
  rw [wrap_id (by omega) (by omega)]
  simp only [szL]
  refine ev_ite (fun h => by rw [if_pos h]; exact ev_some rfl) (fun h => ?_)
  rw [if_neg h]
  refine ev_listI0 (fun k s i => laws_szValS.l0 k l s i) l (fun s _ => 0 ≤ s ∧ s ≤ 1048576) (fun s _ r => szL s (r.map fun x => x.f2.size)) (left - l.length) (by omega) ?_ ?_
  · intro s hI
    refine Ev.step (fun k => by rw [laws_szValS.l0]) ?_
    exact ev_neg (by omega) (ev_some rfl)
  · intro s i x r hI hi hx hd ih
    refine Ev.step (fun k => by rw [laws_szValS.l0]) ?_
    refine ev_pos (by omega) (ev_pos (by omega) ?_)
    rw [wrap_succ (by omega), show rd_T114 l (i : Int) = x from getD_at hx]
    have hm := he x (List.mem_of_getElem? hx)
    refine Ev.bind (ev_c (laws_szVal_eq _ _ _ _ hI.1 hI.2 hm)) ?_
    simp only [szL, List.map_cons]
    by_cases c : s - x.f2.size < 0
    · simp only [if_pos c]; exact ev_pos (by omega) (ev_some rfl)
    · simp only [if_neg c]; exact ih _ (by omega)

theorem spec_l1In_eq (a b c : Int) : spec_l1In.f a b c = some (inB a b c) := by unfold spec_l1In.f inB; split <;> rfl

theorem spec_PartOk_eq (a b : Int) (c d : Bool) : spec_PartOk.f a b c d = some (partOkM a b) := by
  unfold spec_PartOk.f partOkM
  rw [spec_l1In_eq, spec_l1In_eq]
  by_cases h : inB a 0 9 = true <;> simp [h]

theorem spec_PlanOk_ev (l : List (S119)) (hs : l.length ≤ 281474976710656) : Ev (fun k => spec_PlanOk.f k l) (if l.all (fun p => partOkM p.f0 p.f1) = true then decide ((l.length : Int) ≤ 6) else false) := by
  refine ev_all (fun k i => spec_PlanOk.l0 k l i) l (fun p => partOkM p.f0 p.f1) (decide ((l.length : Int) ≤ 6)) ?_ ?_
  · refine Ev.step (fun k => by rw [spec_PlanOk.l0]) ?_
    exact ev_neg (by omega) (ev_some rfl)
  · intro i x r hi hx ih
    refine Ev.step (fun k => by rw [spec_PlanOk.l0]) ?_
    refine ev_pos (by omega) (ev_pos (by omega) ?_)
    rw [wrap_succ (by omega), show rd_T119 l (i : Int) = x from getD_at hx]
    refine Ev.bind (ev_c (spec_PartOk_eq _ _ _ _)) ?_
    refine ev_ite (fun h => by rw [if_pos h]; exact ih) (fun h => by rw [if_neg h]; exact ev_some rfl)

theorem spec_ValOk_eq (a b : Int) (s : ByteArray) : spec_ValOk.f a b s = some (valOkM a b (bytesOf s)) := by
  unfold spec_ValOk.f valOkM
  simp only [spec_l1In_eq, empty_toList, size_len, Option.bind_some]
  repeat' split
  all_goals simp_all

theorem spec_Fits_eq (p0 p1 : Int) (p2 p3 : Bool) (v0 v1 : Int) (v2 : ByteArray) : spec_Fits.f p0 p1 p2 p3 v0 v1 v2 = some (fitsM p1 p2 v0 v1 (bytesOf v2)) := by
  unfold spec_Fits.f fitsM
  rw [spec_ValOk_eq]
  simp only [Option.bind_some]
  repeat' split
  all_goals simp_all

def fitsP (x : S119 × S116) : Bool := fitsM x.1.f1 x.1.f2 x.2.f0 x.2.f1 (bytesOf x.2.f2)
def fitsAllM (l : List (S119)) (vs : List (S116)) : Bool := if l.length < vs.length then false else if (l.zip vs).all fitsP = true then true else false
theorem zip_at {α β : Type} {l : List α} {m : List β} {i : Nat} {x : α × β} (h : (l.zip m)[i]? = some x) : l[i]? = some x.1 ∧ m[i]? = some x.2 := by
  rw [List.getElem?_zip_eq_some] at h; exact h
theorem spec_FitsAll_ev (l : List (S119)) (vs : List (S116)) (hs : l.length ≤ 281474976710656) : Ev (fun k => spec_FitsAll.f k l vs) (fitsAllM l vs) := by
  unfold spec_FitsAll.f fitsAllM
  refine ev_ite (fun h => by rw [if_pos (by omega)]; exact ev_some rfl) (fun h => ?_)
  rw [if_neg (by omega)]
  have hz : (l.zip vs).length = vs.length := by rw [List.length_zip]; omega
  refine ev_all (fun k i => spec_FitsAll.l0 k l vs i) (l.zip vs) fitsP true ?_ ?_
  · refine Ev.step (fun k => by rw [spec_FitsAll.l0]) ?_
    exact ev_neg (by omega) (ev_some rfl)
  · intro i x r hi hx ih
    obtain ⟨h1, h2⟩ := zip_at hx
    refine Ev.step (fun k => by rw [spec_FitsAll.l0]) ?_
    refine ev_pos (by omega) (ev_pos (by omega) (ev_pos (by omega) ?_))
    rw [wrap_succ (by omega), show rd_T119 l (i : Int) = x.1 from getD_at h1, show rd_T116 vs (i : Int) = x.2 from getD_at h2]
    refine Ev.bind (ev_c (spec_Fits_eq _ _ _ _ _ _ _)) ?_
    exact ev_ite (fun h => by rw [if_pos (show fitsP x = true from h)]; exact ih) (fun h => by rw [if_neg (show ¬ fitsP x = true from h)]; exact ev_some rfl)

def planOkM (l : List (S119)) : Bool := if l.all (fun p => partOkM p.f0 p.f1) = true then decide ((l.length : Int) ≤ 6) else false
def rowOkM (l : List (S119)) (vs : List (S116)) : Bool := if planOkM l = true then (if (vs.length : Int) = (l.length : Int) then fitsAllM l vs else false) else false
theorem spec_RowOk_ev (l : List (S119)) (vs : List (S116)) (hs : l.length ≤ 281474976710656) : Ev (fun k => spec_RowOk.f k l vs) (rowOkM l vs) := by
  unfold spec_RowOk.f rowOkM
  refine Ev.bind (spec_PlanOk_ev l hs) ?_
  refine ev_ite (fun h => ?_) (fun h => by rw [if_neg (show ¬ planOkM l = true from h)]; exact ev_some rfl)
  rw [if_pos (show planOkM l = true from h)]
  refine ev_ite (fun h => ?_) (fun h => by rw [if_neg h]; exact ev_some rfl)
  rw [if_pos h]
  exact Ev.bind (spec_FitsAll_ev l vs hs) (ev_some rfl)

theorem spec_PutU_loop (s : List Int) (n : Int) (hs : s.length < 140737488355317) (h0 : 0 ≤ n) (h1 : n ≤ 1000000) : Ev (fun k => spec_PutU.l0 k n s) (s ++ groups n) := by
  refine ev_groups (fun k s n => spec_PutU.l0 k n s) ?_ ?_ s n hs h0 h1
  · intro s n r hs h0 h1 ih
    refine Ev.step (fun k => by rw [spec_PutU.l0]) ?_
    refine ev_pos h0 (ev_pos (by omega) ?_)
    rw [and127 n (by omega) (by omega), or128 _ (by omega) (by omega), show (n % 128 + 128) % 256 = n % 128 + 128 by omega]
    exact ih
  · intro s n hs h0 h1
    refine Ev.step (fun k => by rw [spec_PutU.l0]) ?_
    refine ev_neg (by omega) (ev_pos (by omega) (ev_some ?_))
    rw [show n % 256 = n by omega]
theorem spec_PutU_ev (l : List Int) (n : Int) (hs : l.length < 140737488355317) : Ev (fun k => spec_PutU.f k l n) (l ++ uM n) := by
  have hb := clampU_bd n
  unfold spec_PutU.f
  refine Ev.bind (ev_c rfl) (ev_pos (by simp; omega) (Ev.bind (ev_c rfl) ?_))
  simp only [List.nil_append]
  unfold uM
  refine ev_ite (fun h => ?_) (fun h => ?_)
  · have e : clampU n = 1000000 := by unfold clampU; rw [if_neg (by omega), if_pos h]
    rw [e]
    refine Ev.step (fun k => by rw [spec_PutU.j0]) (ev_neg (by omega) (Ev.step (fun k => by rw [spec_PutU.j1]) ?_))
    exact spec_PutU_loop _ _ hs (by omega) (by omega)
  · refine Ev.step (fun k => by rw [spec_PutU.j0]) (ev_ite (fun h2 => ?_) (fun h2 => ?_))
    · have e : clampU n = 0 := by unfold clampU; rw [if_pos h2]
      rw [e]
      exact Ev.step (fun k => by rw [spec_PutU.j1]) (spec_PutU_loop _ _ hs (by omega) (by omega))
    · have e : clampU n = n := by unfold clampU; rw [if_neg h2, if_neg h]
      rw [e]
      exact Ev.step (fun k => by rw [spec_PutU.j1]) (spec_PutU_loop _ _ hs (by omega) (by omega))

theorem spec_l4Bytes_loop : ∀ (d : Nat) (x : Int) (s : List Int), x < 256 ^ d → s.length + d ≤ 100 → Ev (fun k => spec_l4Bytes.l0 k x s) (beM d x ++ s) := by
  intro d
  induction d with
  | zero =>
    intro x s hx _
    have hx0 : ¬ x > 0 := by rw [Int.pow_zero] at hx; omega
    refine Ev.step (fun k => by rw [spec_l4Bytes.l0]) ?_
    exact ev_neg hx0 (ev_some rfl)
  | succ d ih =>
    intro x s hx hs
    refine Ev.step (fun k => by rw [spec_l4Bytes.l0]) ?_
    rw [beM]
    refine ev_ite (fun h => ?_) (fun h => by rw [if_neg h]; exact ev_some rfl)
    rw [if_pos h]
    refine Ev.bind (ev_c rfl) (ev_pos (by simp; omega) ?_)
    refine ev_eq (ih (x / 256) ([x % 256] ++ s) ?_ (by simp; omega)) (by simp)
    rw [Int.pow_succ] at hx
    exact Int.ediv_lt_of_lt_mul (by omega) hx
theorem spec_l4Bytes_ev (x : Int) (hx : x ≤ 1000000000000000) : Ev (fun k => spec_l4Bytes.f k x) (beM 7 x) := by
  unfold spec_l4Bytes.f
  exact ev_eq (spec_l4Bytes_loop 7 x [] (by omega) (by simp)) (by simp)

theorem spec_Flip_ev (l : List Int) (hs : l.length ≤ 1000) (hb : ∀ b ∈ l, 0 ≤ b ∧ b ≤ 255) : Ev (fun k => spec_Flip.f k l 0) (l.map fun b => 255 - b) := by
  unfold spec_Flip.f
  refine Ev.bind (ev_c rfl) (ev_pos (by simp; omega) ?_)
  rw [List.nil_append]
  have h := ev_listI0 (fun k (s : List Int) i => spec_Flip.l0 k 0 s i) l (fun s i => s.length = l.length ∧ s.drop i = l.drop i) (fun s i r => s.take i ++ r.map fun b => 255 - b) l (by simp) ?_ ?_
  · simpa using h
  · intro s ⟨hl, _⟩
    refine Ev.step (fun k => by rw [spec_Flip.l0]) ?_
    refine ev_neg (by omega) (ev_some ?_)
    rw [← hl, List.take_length]
    simp
  · intro s i x r ⟨hl, hd0⟩ hi hx hd ih
    have hx2 : s[i]? = some x := by
      have : (s.drop i)[0]? = (l.drop i)[0]? := by rw [hd0]
      rw [List.getElem?_drop, List.getElem?_drop] at this
      rw [Nat.add_zero] at this
      rw [this]; exact hx
    have bx := hb x (List.mem_of_getElem? hx)
    refine Ev.step (fun k => by rw [spec_Flip.l0]) ?_
    refine ev_pos (by omega) (ev_pos (by omega) (ev_pos (by omega) ?_))
    rw [wrap_succ (by omega), rd_at hx2, Int.toNat_natCast, flip_l x bx.1 bx.2]
    refine ev_eq (ih (s.set i (255 - x)) ⟨by simpa using hl, ?_⟩) ?_
    · rw [List.drop_set_of_lt (by omega)]
      have e : (s.drop i).tail = (l.drop i).tail := by rw [hd0]
      rwa [List.tail_drop, List.tail_drop] at e
    · rw [List.take_add_one, List.take_set_of_le (Nat.le_refl i), List.getElem?_set_self (by omega)]
      simp

theorem spec_PutVar_j1 (l : List Int) (c : Int) (hs : l.length < 140737488355300) (h0 : -1000000000000000 ≤ c) (h1 : c ≤ 1000000000000000) : Ev (fun k => spec_PutVar.j1 k l c) (l ++ (if c ≥ 0 then (128 + ((beM 7 c).length : Int)) :: beM 7 c else (127 - ((beM 7 (-1 - c)).length : Int)) :: (beM 7 (-1 - c)).map (fun b => 255 - b))) := by
  have n1 := beM_len 7 c
  have n2 := beM_len 7 (-1 - c)
  refine Ev.step (fun k => by rw [spec_PutVar.j1]) ?_
  refine ev_ite (fun h => ?_) (fun h => ?_)
  · rw [if_pos h]
    refine Ev.bind (spec_l4Bytes_ev c h1) (Ev.bind (ev_c rfl) (ev_pos (by simp; omega) (Ev.bind (ev_c rfl) (ev_pos (by simp; omega) (Ev.bind (ev_c rfl) (ev_pos (by simp; omega) (ev_some ?_)))))))
    rw [wrap_id (by omega) (by omega), show (128 + ((beM 7 c).length : Int)) % 256 = 128 + ((beM 7 c).length : Int) by omega]
    simp
  · rw [if_neg h, wrap_id (x := -1 - c) (by omega) (by omega)]
    refine Ev.bind (spec_l4Bytes_ev _ (by omega)) (Ev.bind (ev_c rfl) (ev_pos (by simp; omega) (Ev.bind (ev_c rfl) (ev_pos (by simp; omega) (Ev.bind (ev_c rfl) (Ev.bind (spec_Flip_ev _ (by omega) (beM_bytes 7 _)) (ev_pos (by simp; omega) (ev_some ?_))))))))
    rw [wrap_id (by omega) (by omega), show (127 - ((beM 7 (-1 - c)).length : Int)) % 256 = 127 - ((beM 7 (-1 - c)).length : Int) by omega]
    simp
theorem spec_PutVar_ev (l : List Int) (n : Int) (hs : l.length < 140737488355300) : Ev (fun k => spec_PutVar.f k l n) (l ++ varM n) := by
  have hb := clampV_bd n
  have h := spec_PutVar_j1 l (clampV n) hs hb.1 hb.2
  unfold spec_PutVar.f varM
  refine ev_ite (fun c => ?_) (fun c => ?_)
  · have e : clampV n = 1000000000000000 := by unfold clampV; rw [if_pos c]
    rw [e] at h ⊢
    exact Ev.step (fun k => by rw [spec_PutVar.j0]) (ev_neg (by omega) h)
  · refine Ev.step (fun k => by rw [spec_PutVar.j0]) (ev_ite (fun c2 => ?_) (fun c2 => ?_))
    · have e : clampV n = -1000000000000000 := by unfold clampV; rw [if_neg c, if_pos c2]
      rw [e] at h ⊢
      exact h
    · have e : clampV n = n := by unfold clampV; rw [if_neg c, if_neg c2]
      rw [e] at h ⊢
      exact h

theorem spec_PutText_ev (l : List Int) (s : ByteArray) (hs : l.length + s.size < 140737488355310) : Ev (fun k => spec_PutText.f k l s) (l ++ uM s.size ++ bytesOf s) := by
  have hb := uM_len s.size
  unfold spec_PutText.f
  refine Ev.bind (spec_PutU_ev l _ (by omega)) (ev_pos (by simp only [List.length_append]; omega) (ev_some rfl))

theorem spec_Crc_ev (l : List Int) (hs : l.length ≤ 281474976710656) (hb : ∀ b ∈ l, 0 ≤ b ∧ b ≤ 255) : Ev (fun k => spec_Crc.f k l) (crcM l) := by
  unfold spec_Crc.f
  have h := ev_listI0 (fun k (x : Nat) i => spec_Crc.l0 k l (x : Int) i) l (fun x _ => x < 2 ^ 32) (fun x _ r => ((crcFold x r ^^^ 4294967295 : Nat) : Int)) 4294967295 (by decide) ?_ ?_
  · exact h
  · intro x hI
    refine Ev.step (fun k => by rw [spec_Crc.l0]) ?_
    refine ev_neg (by omega) (ev_some ?_)
    exact xor_i64 x 4294967295 hI (by decide)
  · intro x i b r hI hi hx hd ih
    have hbb := hb b (List.mem_of_getElem? hx)
    refine Ev.step (fun k => by rw [spec_Crc.l0]) ?_
    refine ev_pos (by omega) (ev_pos (by omega) ?_)
    rw [show rd l (i : Int) = b from getD_at hx, wrap_id (by omega) (by omega)]
    obtain ⟨c, rfl⟩ := Int.eq_ofNat_of_zero_le hbb.1
    rw [xor_i64 x c hI (by omega)]
    refine ev_eight (fun k (y : Nat) j => spec_Crc.l1 k l (y : Int) (i : Int) j) _ ?_ (x ^^^ c) (Nat.xor_lt_two_pow hI (by omega)) ?_
    · intro y j hy hj ih2
      refine Ev.step (fun k => by rw [spec_Crc.l1]) ?_
      refine ev_pos (by omega) ?_
      rw [and1_i64 y hy, wrap_succ (by omega)]
      unfold crcStep at ih2
      refine ev_ite (fun h => ?_) (fun h => ?_)
      · rw [if_pos (by omega)] at ih2
        rw [show ((y : Int) / 2) = ((y / 2 : Nat) : Int) by omega, show ((2197175160 : Int)) = ((2197175160 : Nat) : Int) from rfl, xor_i64 (y / 2) 2197175160 (by omega) (by decide)]
        exact ih2
      · rw [if_neg (by omega)] at ih2
        rw [show ((y : Int) / 2) = ((y / 2 : Nat) : Int) by omega]
        exact ih2
    · refine Ev.step (fun k => by rw [spec_Crc.l1]) ?_
      refine ev_neg (by omega) ?_
      rw [wrap_succ (by omega)]
      exact ih (crcByte x c) (crcByte_lt hI hbb.2)

theorem spec_PutSum_ev (l : List Int) (hs : l.length < 140737488355310) (hb : ∀ b ∈ l, 0 ≤ b ∧ b ≤ 255) : Ev (fun k => spec_PutSum.f k l) (l ++ sum4 (crcM l)) := by
  unfold spec_PutSum.f
  refine Ev.bind (spec_Crc_ev l (by omega) hb) ?_
  refine Ev.bind (ev_c rfl) (ev_pos (by simp; omega) (Ev.bind (ev_c rfl) (Ev.bind (ev_c rfl) (ev_pos (by simp; omega) (ev_some rfl)))))

def rowB (vs : List (S116)) : List Int := uM vs.length ++ vs.flatMap (fun v => valM v.f0 v.f1 v.f2)
def encM (l : List (S119)) (vs : List (S116)) : List Int := if rowOkM l vs = true then rowB vs ++ sum4 (crcM (rowB vs)) else []
theorem flat_bytes {β : Type} (l : List β) (f : β → List Int) (h : ∀ x, ∀ b ∈ f x, 0 ≤ b ∧ b ≤ 255) : ∀ b ∈ l.flatMap f, 0 ≤ b ∧ b ≤ 255 := by
  intro b hb
  obtain ⟨x, _, hx⟩ := List.mem_flatMap.1 hb
  exact h x b hx
theorem rowB_bytes (vs : List (S116)) : ∀ b ∈ rowB vs, 0 ≤ b ∧ b ≤ 255 := app_bytes (uM_bytes _) (flat_bytes _ _ fun _ => valM_bytes _ _ _)
def valSz (vs : List (S116)) : Nat := (vs.map fun v => v.f2.size).sum
theorem sum_valM (vs : List (S116)) : (vs.map fun v => (valM v.f0 v.f1 v.f2).length).sum ≤ 11 * vs.length + valSz vs := by
  unfold valSz
  induction vs with
  | nil => simp
  | cons v r ih =>
    have := valM_len v.f0 v.f1 v.f2
    simp only [List.map_cons, List.sum_cons, List.length_cons]
    omega
theorem rowB_len (vs : List (S116)) : (rowB vs).length ≤ 3 + 11 * vs.length + valSz vs := by
  have h := sum_valM vs
  have h2 := uM_len vs.length
  unfold rowB
  rw [List.length_append, flatMap_len]
  omega
theorem encM_len (l : List (S119)) (vs : List (S116)) : (encM l vs).length ≤ 7 + 11 * vs.length + valSz vs := by
  unfold encM
  split
  · have := rowB_len vs
    rw [List.length_append, show (sum4 (crcM (rowB vs))).length = 4 from rfl]
    omega
  · exact Nat.zero_le _
/-- What stands behind a value's kind, as the code's tests tell it. -/
theorem valM_app (s : List Int) (k n : Int) (t : ByteArray) : s ++ valM k n t = (s ++ uM k) ++ (if k = 1 ∨ k = 2 then varM n else if k = 3 then txtM t else if k = 4 then [n % 256] else []) := by
  unfold valM; rw [List.append_assoc]
theorem spec_EncodeRow_ev (l : List (S119)) (vs : List (S116)) (hl : l.length ≤ 1048576) (hs : vs.length ≤ 1048576) (hz : valSz vs ≤ 2000000) : Ev (fun k => spec_EncodeRow.f k l vs) (encM l vs) := by
  unfold spec_EncodeRow.f encM
  refine Ev.bind (spec_RowOk_ev l vs (by omega)) ?_
  refine ev_ite (fun h => ?_) (fun h => by rw [if_neg h]; exact ev_some rfl)
  rw [if_pos h]
  refine Ev.bind (spec_PutU_ev _ _ (by simp)) ?_
  rw [List.nil_append]
  have hl2 := uM_len vs.length
  have hb := sum_valM vs
  unfold rowB
  refine ev_flatB (fun k s i => spec_EncodeRow.l0 k vs s i) vs (fun v => valM v.f0 v.f1 v.f2) (fun b => b ++ sum4 (crcM b)) 100000000 (fun _ => valM_bytes _ _ _) ?_ ?_ (uM vs.length) (by omega) (uM_bytes _)
  · intro s hS hbs
    refine Ev.step (fun k => by rw [spec_EncodeRow.l0]) (ev_neg (by omega) ?_)
    exact Ev.bind (spec_PutSum_ev s (by omega) hbs) (ev_some rfl)
  · intro s i x r hS hi hx ih
    have hk := uM_len x.f0
    have hv : (valM x.f0 x.f1 x.f2).length = (uM x.f0).length + (if x.f0 = 1 ∨ x.f0 = 2 then varM x.f1 else if x.f0 = 3 then txtM x.f2 else if x.f0 = 4 then [x.f1 % 256] else []).length := by unfold valM; rw [List.length_append]
    rw [valM_app] at ih
    refine Ev.step (fun k => by rw [spec_EncodeRow.l0]) (ev_pos (by omega) (ev_pos (by omega) ?_))
    rw [show rd_T116 vs (i : Int) = x from getD_at hx]
    refine Ev.bind (spec_PutU_ev s x.f0 (by omega)) ?_
    have tail : ∀ c : Bool, c = decide (x.f0 = 1 ∨ x.f0 = 2) → Ev (fun k => spec_EncodeRow.j1 k vs (s ++ uM x.f0) (i : Int) x.f0 c x.f0 x.f1 x.f2) r := by
      intro c hc
      refine Ev.step (fun k => by rw [spec_EncodeRow.j1]) ?_
      rw [wrap_succ (by omega), hc]
      refine ev_ite (fun h => ?_) (fun h => ?_)
      · have h' := of_decide_eq_true h
        rw [if_pos h'] at ih hv
        exact Ev.bind (spec_PutVar_ev (s ++ uM x.f0) x.f1 (by rw [List.length_append]; omega)) ih
      · have h' : ¬ (x.f0 = 1 ∨ x.f0 = 2) := fun h2 => h (decide_eq_true h2)
        rw [if_neg h'] at ih hv
        refine ev_ite (fun h3 => ?_) (fun h3 => ?_)
        · rw [if_pos h3] at ih hv
          have hx2 := bytesOf_length x.f2
          have := spec_PutText_ev (s ++ uM x.f0) x.f2 (by rw [List.length_append]; unfold txtM at hv; rw [List.length_append] at hv; omega)
          rw [List.append_assoc] at this
          exact Ev.bind this ih
        · rw [if_neg h3] at ih hv
          refine ev_ite (fun h4 => ?_) (fun h4 => ?_)
          · rw [if_pos h4] at ih
            exact ev_pos (by rw [List.length_append]; omega) ih
          · rw [if_neg h4, List.append_nil] at ih
            exact ih
    refine ev_ite (fun h => tail _ (by simp [h])) (fun h => tail _ ?_)
    by_cases h2 : x.f0 = 2
    · simp [h2]
    · simp [h, h2]

def cPart (x : S121) : S119 := ⟨x.f0, x.f1, x.f2, x.f3⟩
theorem laws_toPartS_ev (l : List (S121)) (hs : l.length ≤ 1048576) : Ev (fun k => laws_toPartS.f k l) (l.map cPart) := by
  unfold laws_toPartS.f
  refine ev_pos (by omega) (ev_pos (by omega) ?_)
  refine ev_fill (fun k s i => laws_toPartS.l0 k l s i) l cPart ?_ ?_ _ (by simp)
  · intro s hI
    refine Ev.step (fun k => by rw [laws_toPartS.l0]) ?_
    exact ev_neg (by omega) (ev_some rfl)
  · intro s i x r hI hi hx ih
    refine Ev.step (fun k => by rw [laws_toPartS.l0]) ?_
    refine ev_pos (by omega) (ev_pos (by omega) ?_)
    rw [wrap_succ (by omega), show rd_T121 l (i : Int) = x from getD_at hx]
    refine Ev.bind (ev_c (show laws_toPart.f x.f0 x.f1 x.f2 x.f3 = some (x.f0, x.f1, x.f2, x.f3) from rfl)) ?_
    refine ev_pos (by omega) ?_
    exact ih

def cVal (x : S114) : S116 := ⟨x.f0, x.f1, x.f2⟩
theorem laws_toValS_ev (l : List (S114)) (hs : l.length ≤ 1048576) : Ev (fun k => laws_toValS.f k l) (l.map cVal) := by
  unfold laws_toValS.f
  refine ev_pos (by omega) (ev_pos (by omega) ?_)
  refine ev_fill (fun k s i => laws_toValS.l0 k l s i) l cVal ?_ ?_ _ (by simp)
  · intro s hI
    refine Ev.step (fun k => by rw [laws_toValS.l0]) ?_
    exact ev_neg (by omega) (ev_some rfl)
  · intro s i x r hI hi hx ih
    refine Ev.step (fun k => by rw [laws_toValS.l0]) ?_
    refine ev_pos (by omega) (ev_pos (by omega) ?_)
    rw [wrap_succ (by omega), show rd_T114 l (i : Int) = x from getD_at hx]
    refine Ev.bind (ev_c (show laws_toVal.f x.f0 x.f1 x.f2 = some (x.f0, x.f1, x.f2) from rfl)) ?_
    refine ev_pos (by omega) ?_
    exact ih

theorem impl_in_eq (a b c : Int) : impl_in.f a b c = some (inB a b c) := by unfold impl_in.f inB; split <;> rfl

theorem impl_PartOk_eq (a b : Int) (c d : Bool) : impl_PartOk.f a b c d = some (partOkM a b) := by
  unfold impl_PartOk.f partOkM
  rw [impl_in_eq, impl_in_eq]
  by_cases h : inB a 0 9 = true <;> simp [h]

theorem impl_PlanOk_ev (l : List (S119)) (hs : l.length ≤ 281474976710656) : Ev (fun k => impl_PlanOk.f k l) (if l.all (fun p => partOkM p.f0 p.f1) = true then decide ((l.length : Int) ≤ 6) else false) := by
  have h := ev_list0 (fun k i => impl_PlanOk.l0 k l (l.length : Int) i) l (fun i r => decide ((l.length : Int) ≤ 6 ∨ r = []) && (r.all (fun p => partOkM p.f0 p.f1))) ?_ ?_
  · refine ev_eq h ?_
    by_cases c : l.all (fun p => partOkM p.f0 p.f1) = true
    · rw [if_pos c, c, Bool.and_true]
      congr 1
      simp only [eq_iff_iff]
      constructor
      · rintro (h | h)
        · exact h
        · rw [h]; simp
      · intro h; exact Or.inl h
    · rw [if_neg c, Bool.eq_false_iff.2 c, Bool.and_false]
  · refine Ev.step (fun k => by rw [impl_PlanOk.l0]) ?_
    exact ev_neg (by omega) (ev_some (by simp))
  · intro i x r hi hx hd ih
    refine Ev.step (fun k => by rw [impl_PlanOk.l0]) ?_
    refine ev_pos (by omega) (ev_pos (by omega) (ev_pos (by omega) ?_))
    have hl : r.length + i + 1 = l.length := by have := congrArg List.length hd; simp at this; omega
    refine ev_ite (fun h6 => ?_) (fun h6 => ?_)
    · refine ev_some ?_
      rw [decide_eq_false (by simp; omega)]; rfl
    · rw [wrap_succ (by omega), show rd_T119 l (i : Int) = x from getD_at hx]
      refine Ev.bind (ev_c (impl_PartOk_eq _ _ _ _)) ?_
      refine ev_ite (fun h => ?_) (fun h => ?_)
      · refine ev_eq ih ?_
        simp only [List.all_cons, h, Bool.true_and]
        congr 1
        by_cases h7 : (l.length : Int) ≤ 6
        · simp [h7]
        · cases r with
          | nil => simp at hl; omega
          | cons _ _ => simp [h7]
      · simp only [List.all_cons, Bool.eq_false_iff.2 h, Bool.false_and, Bool.and_false]
        exact ev_some rfl

theorem impl_ValOk_eq (a b : Int) (s : ByteArray) : impl_ValOk.f a b s = some (valOkM a b (bytesOf s)) := by
  unfold impl_ValOk.f valOkM
  simp only [impl_in_eq, empty_toList, size_len, Option.bind_some]
  repeat' split
  all_goals simp_all

theorem impl_Fits_eq (p0 p1 : Int) (p2 p3 : Bool) (v0 v1 : Int) (v2 : ByteArray) : impl_Fits.f p0 p1 p2 p3 v0 v1 v2 = some (fitsM p1 p2 v0 v1 (bytesOf v2)) := by
  unfold impl_Fits.f fitsM
  rw [impl_ValOk_eq]
  simp only [Option.bind_some]
  repeat' split
  all_goals simp_all

theorem impl_FitsAll_ev (l : List (S119)) (vs : List (S116)) (hs : l.length ≤ 281474976710656) : Ev (fun k => impl_FitsAll.f k l vs) (fitsAllM l vs) := by
  unfold impl_FitsAll.f fitsAllM
  refine ev_ite (fun h => by rw [if_pos (by omega)]; exact ev_some rfl) (fun h => ?_)
  rw [if_neg (by omega)]
  have hz : (l.zip vs).length = vs.length := by rw [List.length_zip]; omega
  refine ev_all (fun k i => impl_FitsAll.l0 k l vs (vs.length : Int) i) (l.zip vs) fitsP true ?_ ?_
  · refine Ev.step (fun k => by rw [impl_FitsAll.l0]) ?_
    exact ev_neg (by omega) (ev_some rfl)
  · intro i x r hi hx ih
    obtain ⟨h1, h2⟩ := zip_at hx
    refine Ev.step (fun k => by rw [impl_FitsAll.l0]) ?_
    refine ev_pos (by omega) (ev_pos (by omega) (ev_pos (by omega) (ev_pos (by omega) ?_)))
    rw [wrap_succ (by omega), show rd_T119 l (i : Int) = x.1 from getD_at h1, show rd_T116 vs (i : Int) = x.2 from getD_at h2]
    refine Ev.bind (ev_c (impl_Fits_eq _ _ _ _ _ _ _)) ?_
    exact ev_ite (fun h => by rw [if_pos (show fitsP x = true from h)]; exact ih) (fun h => by rw [if_neg (show ¬ fitsP x = true from h)]; exact ev_some rfl)

theorem impl_RowOk_ev (l : List (S119)) (vs : List (S116)) (hs : l.length ≤ 281474976710656) : Ev (fun k => impl_RowOk.f k l vs) (rowOkM l vs) := by
  unfold impl_RowOk.f rowOkM
  refine Ev.bind (impl_PlanOk_ev l hs) ?_
  refine ev_ite (fun h => ?_) (fun h => by rw [if_neg (show ¬ planOkM l = true from h)]; exact ev_some rfl)
  rw [if_pos (show planOkM l = true from h)]
  refine ev_ite (fun h => ?_) (fun h => by rw [if_neg h]; exact ev_some rfl)
  rw [if_pos h]
  exact Ev.bind (impl_FitsAll_ev l vs hs) (ev_some rfl)

theorem impl_addU_loop (s : List Int) (n : Int) (hs : s.length < 140737488355317) (h0 : 0 ≤ n) (h1 : n ≤ 1000000) : Ev (fun k => impl_addU.l0 k s n) (s ++ groups n) := by
  refine ev_groups (fun k s n => impl_addU.l0 k s n) ?_ ?_ s n hs h0 h1
  · intro s n r hs h0 h1 ih
    refine Ev.step (fun k => by rw [impl_addU.l0]) ?_
    refine ev_pos h0 (ev_pos (by omega) ?_)
    rw [Int.tmod_eq_emod_of_nonneg (by omega), Int.tdiv_eq_ediv_of_nonneg (by omega), wrap_id (by omega) (by omega), wrap_id (by omega) (by omega), show (n % 128 + 128) % 256 = n % 128 + 128 by omega]
    exact ih
  · intro s n hs h0 h1
    refine Ev.step (fun k => by rw [impl_addU.l0]) ?_
    refine ev_neg (by omega) (ev_pos (by omega) (ev_some ?_))
    rw [show n % 256 = n by omega]
theorem impl_addU_ev (l : List Int) (n : Int) (hs : l.length < 140737488355317) : Ev (fun k => impl_addU.f k l n) (l ++ uM n) := by
  have hb := clampU_bd n
  unfold impl_addU.f impl_clamp.f
  refine Ev.bind (ev_c rfl) ?_
  rw [clampU_mx]
  exact impl_addU_loop _ _ hs hb.1 hb.2

theorem impl_bytesOf_loop : ∀ (d : Nat) (x : Int) (n : Nat), x < 256 ^ d → n + d ≤ 100 → Ev (fun k => impl_bytesOf.l0 k x (n : Int)) (((n + (beM d x).length : Nat)) : Int) := by
  intro d
  induction d with
  | zero =>
    intro x n hx _
    have hx0 : ¬ x > 0 := by rw [Int.pow_zero] at hx; omega
    refine Ev.step (fun k => by rw [impl_bytesOf.l0]) ?_
    exact ev_neg hx0 (ev_some rfl)
  | succ d ih =>
    intro x n hx hs
    refine Ev.step (fun k => by rw [impl_bytesOf.l0]) ?_
    rw [beM, wrap_succ (by omega)]
    refine ev_ite (fun h => ?_) (fun h => by rw [if_neg h]; exact ev_some rfl)
    rw [if_pos h]
    refine ev_eq (ih (x / 256) (n + 1) ?_ (by omega)) (by rw [List.length_append, List.length_singleton]; omega)
    rw [Int.pow_succ] at hx
    exact Int.ediv_lt_of_lt_mul (by omega) hx
theorem impl_bytesOf_ev (x : Int) (hx : x ≤ 1000000000000000) : Ev (fun k => impl_bytesOf.f k x) ((beM 7 x).length : Int) := by
  unfold impl_bytesOf.f
  exact ev_eq (impl_bytesOf_loop 7 x 0 (by omega) (by omega)) (by simp)

theorem impl_addBytes_loop (x c : Int) (f : Int → Int) (hf : ∀ b, 0 ≤ b → b ≤ 255 → Go.bits .xor .u8 b c = f b) : ∀ (n : Nat) (s : List Int), n ≤ 7 → s.length + n < 140737488355328 → Ev (fun k => impl_addBytes.l0 k s x c ((n : Int) - 1)) (s ++ (digM x n).map f) := by
  intro n
  induction n with
  | zero =>
    intro s _ _
    refine Ev.step (fun k => by rw [impl_addBytes.l0]) (ev_neg (by omega) (ev_some ?_))
    simp [digM]
  | succ n ih =>
    intro s hn hs
    refine Ev.step (fun k => by rw [impl_addBytes.l0]) ?_
    have e : ((n + 1 : Nat) : Int) - 1 = (n : Int) := by omega
    rw [e, wrap_id (x := 8 * (n : Int)) (by omega) (by omega), wrap_id (x := (n : Int) - 1) (by omega) (by omega)]
    refine ev_pos (by omega) (ev_pos (by omega) (ev_pos (by omega) ?_))
    rw [shr_at x n (by omega), hf _ (by omega) (by omega)]
    refine ev_eq (ih (s ++ [f (x / 256 ^ n % 256)]) (by omega) ?_) ?_
    · rw [List.length_append, List.length_singleton]; omega
    · simp [digM]
theorem impl_addBytes_ev (l : List Int) (x c : Int) (f : Int → Int) (hf : ∀ b, 0 ≤ b → b ≤ 255 → Go.bits .xor .u8 b c = f b) (n : Nat) (hn : n ≤ 7) (hs : l.length + n < 140737488355328) : Ev (fun k => impl_addBytes.f k l x (n : Int) c) (l ++ (digM x n).map f) := by
  unfold impl_addBytes.f
  rw [wrap_id (by omega) (by omega)]
  exact impl_addBytes_loop x c f hf n l hn hs

theorem impl_addVar_ev (l : List Int) (n : Int) (hs : l.length < 140737488355300) : Ev (fun k => impl_addVar.f k l n) (l ++ varM n) := by
  have hb := clampV_bd n
  unfold impl_addVar.f impl_clamp.f varM
  refine Ev.bind (ev_c rfl) ?_
  rw [clampV_mx]
  have n1 := beM_len 7 (clampV n)
  have n2 := beM_len 7 (-1 - clampV n)
  refine ev_ite (fun h => ?_) (fun h => ?_)
  · rw [if_pos h]
    refine Ev.bind (impl_bytesOf_ev _ hb.2) (ev_pos (by omega) ?_)
    rw [wrap_id (by omega) (by omega), show (128 + ((beM 7 (clampV n)).length : Int)) % 256 = 128 + ((beM 7 (clampV n)).length : Int) by omega]
    refine Ev.bind (impl_addBytes_ev _ (clampV n) 0 (fun b => b) flip_0 _ n1 (by simp; omega)) (ev_some ?_)
    rw [← beM_dig]
    simp
  · rw [if_neg h, wrap_id (x := -1 - clampV n) (by omega) (by omega)]
    refine Ev.bind (impl_bytesOf_ev _ (by omega)) (ev_pos (by omega) ?_)
    rw [wrap_id (by omega) (by omega), show (127 - ((beM 7 (-1 - clampV n)).length : Int)) % 256 = 127 - ((beM 7 (-1 - clampV n)).length : Int) by omega]
    refine Ev.bind (impl_addBytes_ev _ (-1 - clampV n) 255 (fun b => 255 - b) flip_r _ n2 (by simp; omega)) (ev_some ?_)
    rw [← beM_dig]
    simp

theorem impl_addText_ev (l : List Int) (s : ByteArray) (hs : l.length + s.size < 140737488355310) : Ev (fun k => impl_addText.f k l s) (l ++ uM s.size ++ bytesOf s) := by
  have hb := uM_len s.size
  unfold impl_addText.f
  refine Ev.bind (impl_addU_ev l _ (by omega)) (ev_pos (by simp only [List.length_append]; omega) (ev_some rfl))

theorem impl_Crc_ev (l : List Int) (hs : l.length ≤ 281474976710656) (hb : ∀ b ∈ l, 0 ≤ b ∧ b ≤ 255) : Ev (fun k => impl_Crc.f k l) (crcM l) := by
  unfold impl_Crc.f
  have h := ev_listI0 (fun k (x : Nat) i => impl_Crc.l0 k (x : Int) l (l.length : Int) i) l (fun x _ => x < 2 ^ 32) (fun x _ r => ((crcFold x r ^^^ 4294967295 : Nat) : Int)) 4294967295 (by decide) ?_ ?_
  · exact h
  · intro x hI
    refine Ev.step (fun k => by rw [impl_Crc.l0]) ?_
    refine ev_neg (by omega) (ev_some ?_)
    rw [show Go.bits .xor .u32 4294967295 (x : Int) = ((4294967295 ^^^ x : Nat) : Int) from xor_u32 4294967295 x (by decide) hI]
    have := Nat.xor_lt_two_pow (show 4294967295 < 2 ^ 32 by decide) hI
    rw [wrap_id (by omega) (by omega)]
    show _ = ((x ^^^ 4294967295 : Nat) : Int)
    rw [Nat.xor_comm]
  · intro x i b r hI hi hx hd ih
    have hbb := hb b (List.mem_of_getElem? hx)
    refine Ev.step (fun k => by rw [impl_Crc.l0]) ?_
    refine ev_pos (by omega) (ev_pos (by omega) (ev_pos (by omega) ?_))
    rw [show rd l (i : Int) = b from getD_at hx, show b % 4294967296 = b by omega]
    obtain ⟨c, rfl⟩ := Int.eq_ofNat_of_zero_le hbb.1
    rw [xor_u32 x c hI (by omega)]
    refine ev_eight (fun k (y : Nat) j => impl_Crc.l1 k (y : Int) l (l.length : Int) (i : Int) j) _ ?_ (x ^^^ c) (Nat.xor_lt_two_pow hI (by omega)) ?_
    · intro y j hy hj ih2
      refine Ev.step (fun k => by rw [impl_Crc.l1]) ?_
      refine ev_pos (by omega) ?_
      rw [and1_u32 y hy, wrap_succ (by omega)]
      unfold crcStep at ih2
      refine ev_ite (fun h => ?_) (fun h => ?_)
      · rw [if_pos (by omega)] at ih2
        rw [show ((y : Int) / 2) = ((y / 2 : Nat) : Int) by omega, show ((2197175160 : Int)) = ((2197175160 : Nat) : Int) from rfl, xor_u32 (y / 2) 2197175160 (by omega) (by decide)]
        exact ih2
      · rw [if_neg (by omega)] at ih2
        rw [show ((y : Int) / 2) = ((y / 2 : Nat) : Int) by omega]
        exact ih2
    · refine Ev.step (fun k => by rw [impl_Crc.l1]) ?_
      refine ev_neg (by omega) ?_
      rw [wrap_succ (by omega)]
      exact ih (crcByte x c) (crcByte_lt hI hbb.2)

theorem impl_addSum_ev (l : List Int) (hs : l.length < 140737488355310) (hb : ∀ b ∈ l, 0 ≤ b ∧ b ≤ 255) : Ev (fun k => impl_addSum.f k l) (l ++ sum4 (crcM l)) := by
  unfold impl_addSum.f
  refine Ev.bind (impl_Crc_ev l (by omega) hb) (Ev.bind (ev_c rfl) (ev_pos (by simp; omega) (ev_some rfl)))

theorem impl_EncodeRow_ev (l : List (S119)) (vs : List (S116)) (hl : l.length ≤ 1048576) (hs : vs.length ≤ 1048576) (hz : valSz vs ≤ 2000000) : Ev (fun k => impl_EncodeRow.f k l vs) (encM l vs) := by
  unfold impl_EncodeRow.f encM
  refine Ev.bind (impl_RowOk_ev l vs (by omega)) ?_
  refine ev_ite (fun h => ?_) (fun h => by rw [if_neg h]; exact ev_some rfl)
  rw [if_pos h]
  refine Ev.bind (impl_addU_ev _ _ (by simp)) ?_
  rw [List.nil_append]
  have hl2 := uM_len vs.length
  have hb := sum_valM vs
  unfold rowB
  refine ev_flatB (fun k s i => impl_EncodeRow.l0 k s vs vs.length i) vs (fun v => valM v.f0 v.f1 v.f2) (fun b => b ++ sum4 (crcM b)) 100000000 (fun _ => valM_bytes _ _ _) ?_ ?_ (uM vs.length) (by omega) (uM_bytes _)
  · intro s hS hbs
    refine Ev.step (fun k => by rw [impl_EncodeRow.l0]) (ev_neg (by omega) ?_)
    exact Ev.bind (impl_addSum_ev s (by omega) hbs) (ev_some rfl)
  · intro s i x r hS hi hx ih
    have hk := uM_len x.f0
    have hv : (valM x.f0 x.f1 x.f2).length = (uM x.f0).length + (if x.f0 = 1 ∨ x.f0 = 2 then varM x.f1 else if x.f0 = 3 then txtM x.f2 else if x.f0 = 4 then [x.f1 % 256] else []).length := by unfold valM; rw [List.length_append]
    rw [valM_app] at ih
    refine Ev.step (fun k => by rw [impl_EncodeRow.l0]) (ev_pos (by omega) (ev_pos (by omega) (ev_pos (by omega) ?_)))
    rw [show rd_T116 vs (i : Int) = x from getD_at hx]
    refine Ev.bind (impl_addU_ev s x.f0 (by omega)) ?_
    have tail : ∀ c : Bool, c = decide (x.f0 = 1 ∨ x.f0 = 2) → Ev (fun k => impl_EncodeRow.j1 k (s ++ uM x.f0) vs vs.length (i : Int) x.f0 c x.f0 x.f1 x.f2) r := by
      intro c hc
      refine Ev.step (fun k => by rw [impl_EncodeRow.j1]) ?_
      rw [wrap_succ (by omega), hc]
      refine ev_ite (fun h => ?_) (fun h => ?_)
      · have h' := of_decide_eq_true h
        rw [if_pos h'] at ih hv
        exact Ev.bind (impl_addVar_ev (s ++ uM x.f0) x.f1 (by rw [List.length_append]; omega)) ih
      · have h' : ¬ (x.f0 = 1 ∨ x.f0 = 2) := fun h2 => h (decide_eq_true h2)
        rw [if_neg h'] at ih hv
        refine ev_ite (fun h3 => ?_) (fun h3 => ?_)
        · rw [if_pos h3] at ih hv
          have hx2 := bytesOf_length x.f2
          have := impl_addText_ev (s ++ uM x.f0) x.f2 (by rw [List.length_append]; unfold txtM at hv; rw [List.length_append] at hv; omega)
          rw [List.append_assoc] at this
          exact Ev.bind this ih
        · rw [if_neg h3] at ih hv
          refine ev_ite (fun h4 => ?_) (fun h4 => ?_)
          · rw [if_pos h4] at ih
            exact ev_pos (by rw [List.length_append]; omega) ih
          · rw [if_neg h4, List.append_nil] at ih
            exact ih
    refine ev_ite (fun h => tail _ (by simp [h])) (fun h => tail _ ?_)
    by_cases h2 : x.f0 = 2
    · simp [h2]
    · simp [h, h2]

theorem laws_eqPart_self (x : S119) : laws_eqPart.f x.f0 x.f1 x.f2 x.f3 x.f0 x.f1 x.f2 x.f3 = some true := by
  unfold laws_eqPart.f; simp
theorem laws_eqPartS_self (l : List (S119)) (hs : l.length ≤ 281474976710656) : Ev (fun k => laws_eqPartS.f k l l) true := by
  unfold laws_eqPartS.f
  refine ev_pos rfl ?_
  refine ev_pass (fun k i => laws_eqPartS.l0 k l l i) l true ?_ ?_
  · refine Ev.step (fun k => by rw [laws_eqPartS.l0]) ?_
    exact ev_neg (by omega) (ev_some rfl)
  · intro i x hi hx ih
    refine Ev.step (fun k => by rw [laws_eqPartS.l0]) ?_
    refine ev_pos (by omega) (ev_pos (by omega) (ev_pos (by omega) ?_))
    rw [wrap_succ (by omega)]
    refine Ev.bind (ev_c (laws_eqPart_self _)) ?_
    exact ev_pos rfl ih

theorem laws_eqVal_self (x : S116) : laws_eqVal.f x.f0 x.f1 x.f2 x.f0 x.f1 x.f2 = some true := by
  unfold laws_eqVal.f; simp
theorem laws_eqValS_self (l : List (S116)) (hs : l.length ≤ 281474976710656) : Ev (fun k => laws_eqValS.f k l l) true := by
  unfold laws_eqValS.f
  refine ev_pos rfl ?_
  refine ev_pass (fun k i => laws_eqValS.l0 k l l i) l true ?_ ?_
  · refine Ev.step (fun k => by rw [laws_eqValS.l0]) ?_
    exact ev_neg (by omega) (ev_some rfl)
  · intro i x hi hx ih
    refine Ev.step (fun k => by rw [laws_eqValS.l0]) ?_
    refine ev_pos (by omega) (ev_pos (by omega) (ev_pos (by omega) ?_))
    rw [wrap_succ (by omega)]
    refine Ev.bind (ev_c (laws_eqVal_self _)) ?_
    exact ev_pos rfl ih

theorem laws_markPartS_from : ∀ (d : Nat) (s : List (S119)) (m : Int) (i : Nat), i + d = s.length → s.length ≤ 1000000000 → 0 ≤ m → m + 4 * d ≤ 10000000000 → ∃ r, Ev (fun k => laws_markPartS.l0 k s m (i : Int)) (m + 4 * d, r) := by
  intro d
  induction d with
  | zero =>
    intro s m i h _ _ _
    exact ⟨s, Ev.step (fun k => by rw [laws_markPartS.l0]) (ev_neg (by omega) (ev_some (by simp)))⟩
  | succ d ih =>
    intro s m i h hs h0 h1
    apply Exists.intro
    refine Ev.step (fun k => by rw [laws_markPartS.l0]) ?_
    refine ev_pos (by omega) ?_
    refine ev_pos (by omega) ?_
    refine Ev.bind (ev_c rfl) ?_
    refine Ev.bind (ev_c rfl) ?_
    refine Ev.bind (ev_c rfl) ?_
    rw [wrap_succ (by omega), wrap_id (x := m + 1) (by omega) (by omega), wrap_id (x := m + 1 + 1) (by omega) (by omega), wrap_id (x := m + 1 + 1 + 1) (by omega) (by omega), wrap_id (x := m + 1 + 1 + 1 + 1) (by omega) (by omega)]
    refine ev_eq (Classical.choose_spec (ih _ _ (i + 1) ?_ ?_ ?_ ?_)) ?_
    · simp; omega
    · simp; omega
    · omega
    · omega
    · exact Prod.ext (by simp only; omega) rfl
theorem laws_markPartS_some (l : List (S119)) (m : Int) (hl : l.length ≤ 1000000000) (h0 : 0 ≤ m) (h1 : m + 4 * l.length ≤ 10000000000) : ∃ r, Ev (fun k => laws_markPartS.f k l m) (m + 4 * l.length, r) := by
  obtain ⟨r, hr⟩ := laws_markPartS_from l.length l m 0 (by omega) hl h0 h1
  exact ⟨r, hr⟩

/-- A mark's text: some text, always the same. -/
theorem laws_markText_all : ∀ (d : Nat) (n : Int) (s : ByteArray), n.toNat ≤ d → n ≤ 1000000000000 → s.size + d ≤ 4000000000000 → ∃ r, Ev (fun k => laws_markText.l0 k n s) r := by
  intro d
  induction d with
  | zero =>
    intro n s hn _ hs
    refine ⟨_, Ev.step (fun k => by rw [laws_markText.l0]) (ev_neg (by omega) (ev_pos (by omega) (ev_some rfl)))⟩
  | succ d ih =>
    intro n s hn hn2 hs
    by_cases h : n > 0
    · have e : (strOfNums [wrap64 (48 + Int.tmod n 10) % 256]).size = 1 := strOfNums_size _
      have q : Int.tdiv n 10 = n / 10 := Int.tdiv_eq_ediv_of_nonneg (by omega)
      have qw : wrap64 (n / 10) = n / 10 := wrap_id (by omega) (by omega)
      obtain ⟨r, hr⟩ := ih (n / 10) (strOfNums [wrap64 (48 + Int.tmod n 10) % 256] ++ s) (by omega) (by omega) (by rw [ByteArray.size_append, e]; omega)
      refine ⟨r, ?_⟩
      refine Ev.step (fun k => by rw [laws_markText.l0]) ?_
      refine ev_pos h ?_
      rw [q, qw]
      first
        | exact Ev.bind (ev_c rfl) (ev_pos (by omega) hr)
        | exact ev_pos (by omega) hr
        | (refine Ev.bind (ev_c rfl) ?_; refine ev_pos ?_ hr; omega)
    · exact ⟨_, Ev.step (fun k => by rw [laws_markText.l0]) (ev_neg h (ev_pos (by omega) (ev_some rfl)))⟩
theorem laws_markText_some (n : Int) (h0 : n ≤ 1000000000000) : ∃ r, Ev (fun k => laws_markText.f k n) r := by
  unfold laws_markText.f
  by_cases h : n ≤ 0
  · exact ⟨_, ev_pos h (ev_some rfl)⟩
  · obtain ⟨r, hr⟩ := laws_markText_all n.toNat n (⟨#[]⟩ : ByteArray) (Nat.le_refl _) h0 (by show 0 + _ ≤ _; omega)
    exact ⟨r, ev_neg h hr⟩
open Classical in
noncomputable def markT (n : Int) : ByteArray := if h : n ≤ 1000000000000 then Classical.choose (laws_markText_some n h) else ⟨#[]⟩
theorem laws_markText_ev (n : Int) (h0 : n ≤ 1000000000000) : Ev (fun k => laws_markText.f k n) (markT n) := by
  unfold markT
  rw [dif_pos h0]
  exact Classical.choose_spec (laws_markText_some n h0)

theorem laws_markValS_from : ∀ (d : Nat) (s : List (S116)) (m : Int) (i : Nat), i + d = s.length → s.length ≤ 1000000000 → 0 ≤ m → m + 3 * d ≤ 20000000000 → ∃ r, Ev (fun k => laws_markValS.l0 k s m (i : Int)) (m + 3 * d, r) := by
  intro d
  induction d with
  | zero =>
    intro s m i h _ _ _
    exact ⟨s, Ev.step (fun k => by rw [laws_markValS.l0]) (ev_neg (by omega) (ev_some (by simp)))⟩
  | succ d ih =>
    intro s m i h hs h0 h1
    apply Exists.intro
    refine Ev.step (fun k => by rw [laws_markValS.l0]) ?_
    refine ev_pos (by omega) ?_
    refine ev_pos (by omega) ?_
    refine Ev.bind (ev_c rfl) ?_
    refine Ev.bind (ev_c rfl) ?_
    rw [wrap_succ (by omega), wrap_id (x := m + 1) (by omega) (by omega), wrap_id (x := m + 1 + 1) (by omega) (by omega), wrap_id (x := m + 1 + 1 + 1) (by omega) (by omega)]
    refine Ev.bind (laws_markText_ev _ (by omega)) ?_
    refine ev_eq (Classical.choose_spec (ih _ _ (i + 1) ?_ ?_ ?_ ?_)) ?_
    · simp; omega
    · simp; omega
    · omega
    · omega
    · exact Prod.ext (by simp only; omega) rfl
theorem laws_markValS_some (l : List (S116)) (m : Int) (hl : l.length ≤ 1000000000) (h0 : 0 ≤ m) (h1 : m + 3 * l.length ≤ 20000000000) : ∃ r, Ev (fun k => laws_markValS.f k l m) (m + 3 * l.length, r) := by
  obtain ⟨r, hr⟩ := laws_markValS_from l.length l m 0 (by omega) hl h0 h1
  exact ⟨r, hr⟩

theorem FnExactEncodeRow : ∀ (l0 : List (S121)) (l1 : List (S114)), (l0.length * 24 ≤ 140737488351232 ∧ ∀ e0 ∈ l0, ((-9223372036854775808 ≤ e0.f0 ∧ e0.f0 ≤ 9223372036854775807) ∧ (-9223372036854775808 ≤ e0.f1 ∧ e0.f1 ≤ 9223372036854775807) ∧ True ∧ True)) → (l1.length * 32 ≤ 140737488351232 ∧ ∀ e0 ∈ l1, ((-9223372036854775808 ≤ e0.f0 ∧ e0.f0 ≤ 9223372036854775807) ∧ (-9223372036854775808 ≤ e0.f1 ∧ e0.f1 ≤ 9223372036854775807) ∧ e0.f2.size ≤ 140737488351232)) → ∃ k, laws_FnExactEncodeRow.f k l0 l1 = some true := by
  intro l vs hl hv
  refine Ev.rounds ?_
  unfold laws_FnExactEncodeRow.f
  have hl1 : l.length ≤ 140737488351232 := by omega
  refine Ev.bind (ev_c (laws_szPartS_eq l _ (by omega) (by omega) hl1)) ?_
  refine ev_ite (fun _ => ev_some rfl) (fun h1 => ?_)
  have b1 := szL_le [l.length] 1048576 (by omega)
  refine Ev.bind (laws_szValS_ev vs _ (by omega) (by omega) (by omega) (fun x hx => (hv.2 x hx).2.2)) ?_
  refine ev_ite (fun _ => ev_some rfl) (fun h2 => ?_)
  have c1 : l.length ≤ 1048576 := by simp only [szL] at h1; omega
  have c2 : vs.length ≤ 1048576 := by simp only [szL] at h2; omega
  have p1 : Ev (fun k => laws_toPartS.f k l) (l.map cPart) := laws_toPartS_ev l c1
  have p2 : Ev (fun k => laws_toValS.f k vs) (vs.map cVal) := laws_toValS_ev vs c2
  have d1 : (l.map cPart).length = l.length := List.length_map ..
  have d2 : (vs.map cVal).length = vs.length := List.length_map ..
  have dz : valSz (vs.map cVal) ≤ 2000000 := by
    have e : valSz (vs.map cVal) = (vs.map fun x => x.f2.size).sum := by unfold valSz; rw [List.map_map]; rfl
    rw [e]
    rw [szL_sum _ _ (by omega)] at h2
    have h3 := szC_of h2
    rw [List.sum_cons] at h3
    omega
  have sp := spec_EncodeRow_ev (l.map cPart) (vs.map cVal) (by omega) (by omega) dz
  have im := impl_EncodeRow_ev (l.map cPart) (vs.map cVal) (by omega) (by omega) dz
  have el := encM_len (l.map cPart) (vs.map cVal)
  have e1 := laws_eqByteS_self (encM (l.map cPart) (vs.map cVal)) (by omega)
  refine Ev.bind p1 (Ev.bind p2 (Ev.bind sp (Ev.bind p1 (Ev.bind p2 (Ev.bind im (Ev.bind e1 (ev_pos rfl ?_)))))))
  refine Ev.bind p1 (Ev.bind (laws_eqPartS_self _ (by omega)) (ev_pos rfl (Ev.bind p2 (Ev.bind (laws_eqValS_self _ (by omega)) (ev_pos rfl ?_)))))
  obtain ⟨r1, m1⟩ := laws_markPartS_some (l.map cPart) 1 (by omega) (by omega) (by omega)
  obtain ⟨r2, m2⟩ := laws_markValS_some (vs.map cVal) (1 + 4 * (l.map cPart).length) (by omega) (by omega) (by omega)
  refine Ev.bind m1 (Ev.bind m2 (ev_neg (by simp only; omega) (Ev.bind e1 ?_)))
  refine Ev.step (fun k => by rw [laws_FnExactEncodeRow.j0]) (ev_neg (by simp) ?_)
  refine Ev.bind (laws_markByteS_ev _ 1 (by omega) (by omega) (by omega)) ?_
  have hh := laws_heldByteS_ev (encM (l.map cPart) (vs.map cVal)).length 1 (by omega) (by omega) (by omega)
  refine Ev.bind hh (ev_neg (by omega) (ev_pos rfl ?_))
  refine Ev.bind p1 (Ev.bind p2 (Ev.bind im (Ev.bind e1 (ev_pos rfl ?_))))
  exact Ev.bind hh (ev_neg (by omega) (ev_pos rfl (ev_some rfl)))

end Go.Proofs.Ytllgmgpfdnofmaa.Pure
