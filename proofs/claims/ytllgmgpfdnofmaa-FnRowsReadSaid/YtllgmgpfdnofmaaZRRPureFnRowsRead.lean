import Derived.Test.YtllgmgpfdnofmaaZRRPFnRowsReadx14
import Derived.Test.YtllgmgpfdnofmaaZRRKit
import Derived.Test.YtllgmgpfdnofmaaZRRKitB
import Derived.Test.YtllgmgpfdnofmaaZRRKitC
import Derived.Test.YtllgmgpfdnofmaaZRRKitD
import Derived.Test.YtllgmgpfdnofmaaZRRKitE
import Derived.Test.YtllgmgpfdnofmaaZRRKitF
namespace Go.Proofs.Ytllgmgpfdnofmaa.Pure
open Go.RowKit Go.Proofs.Ytllgmgpfdnofmaa.PFnRowsRead Go.Proofs.YtllgmgpfdnofmaaW.PrintWords Go.Proofs.YtllgmgpfdnofmaaW.PrintLast Go.Proofs.YtllgmgpfdnofmaaW.PrintMore Go.Proofs.Ytllgmgpfdnofmaa.Kit Go.Proofs.Ytllgmgpfdnofmaa.KitB Go.Proofs.Ytllgmgpfdnofmaa.KitC Go.Proofs.Ytllgmgpfdnofmaa.KitD Go.Proofs.Ytllgmgpfdnofmaa.KitE Go.Proofs.Ytllgmgpfdnofmaa.KitF
theorem laws_sameBytes_self (l : List Int) (hs : l.length ≤ 281474976710656) : Ev (fun k => laws_sameBytes.f k l l) true := by
  unfold laws_sameBytes.f
  refine ev_pos rfl ?_
  refine ev_pass (fun k i => laws_sameBytes.l0 k l l i) l true ?_ ?_
  · refine Ev.step (fun k => by rw [laws_sameBytes.l0]) ?_
    exact ev_neg (by omega) (ev_some rfl)
  · intro i x hi hx ih
    refine Ev.step (fun k => by rw [laws_sameBytes.l0]) ?_
    refine ev_pos (by omega) (ev_pos (by omega) (ev_pos (by omega) (ev_pos rfl ?_)))
    rw [wrap_succ (by omega)]
    exact ih
theorem impl_in_eq (a b c : Int) : impl_in.f a b c = some (inB a b c) := by unfold impl_in.f inB; split <;> rfl
theorem impl_PartOk_eq (a b : Int) (c d : Bool) : impl_PartOk.f a b c d = some (partOkM a b) := by
  unfold impl_PartOk.f partOkM
  rw [impl_in_eq, impl_in_eq]
  by_cases h : inB a 0 9 = true <;> simp [h]
theorem impl_PlanOk_ev (l : List (S119)) (hs : l.length ≤ 281474976710656) : Ev (fun k => impl_PlanOk.f k l) (if l.all (fun p => partOkM p.f0 p.f1) = true then decide ((l.length : Int) ≤ 6) else false) := by
  have h := ev_list0 (fun k i => impl_PlanOk.l0 k l (l.length : Int) i) l (fun i r => decide ((l.length : Int) ≤ 6 ∨ r = []) && (r.all (fun p => partOkM p.f0 p.f1))) ?_ ?_
  · refine ev_eq h ?_
    by_cases c : l.all (fun p => partOkM p.f0 p.f1) = true
    · rw [if_pos c, c, Bool.and_true]
      congr 1
      simp only [eq_iff_iff]
      constructor
      · rintro (h | h)
        · exact h
        · rw [h]; simp
      · intro h; exact Or.inl h
    · rw [if_neg c, Bool.eq_false_iff.2 c, Bool.and_false]
  · refine Ev.step (fun k => by rw [impl_PlanOk.l0]) ?_
    exact ev_neg (by omega) (ev_some (by simp))
  · intro i x r hi hx hd ih
    refine Ev.step (fun k => by rw [impl_PlanOk.l0]) ?_
    refine ev_pos (by omega) (ev_pos (by omega) (ev_pos (by omega) ?_))
    have hl : r.length + i + 1 = l.length := by have := congrArg List.length hd; simp at this; omega
    refine ev_ite (fun h6 => ?_) (fun h6 => ?_)
    · refine ev_some ?_
      rw [decide_eq_false (by simp; omega)]; rfl
    · rw [wrap_succ (by omega), show rd_T119 l (i : Int) = x from getD_at hx]
      refine Ev.bind (ev_c (impl_PartOk_eq _ _ _ _)) ?_
      refine ev_ite (fun h => ?_) (fun h => ?_)
      · refine ev_eq ih ?_
        simp only [List.all_cons, h, Bool.true_and]
        congr 1
        by_cases h7 : (l.length : Int) ≤ 6
        · simp [h7]
        · cases r with
          | nil => simp at hl; omega
          | cons _ _ => simp [h7]
      · simp only [List.all_cons, Bool.eq_false_iff.2 h, Bool.false_and, Bool.and_false]
        exact ev_some rfl
theorem impl_ValOk_eq (a b : Int) (s : ByteArray) : impl_ValOk.f a b s = some (valOkM a b (bytesOf s)) := by
  unfold impl_ValOk.f valOkM
  simp only [impl_in_eq, empty_toList, size_len, Option.bind_some]
  repeat' split
  all_goals simp_all
theorem impl_Fits_eq (p0 p1 : Int) (p2 p3 : Bool) (v0 v1 : Int) (v2 : ByteArray) : impl_Fits.f p0 p1 p2 p3 v0 v1 v2 = some (fitsM p1 p2 v0 v1 (bytesOf v2)) := by
  unfold impl_Fits.f fitsM
  rw [impl_ValOk_eq]
  simp only [Option.bind_some]
  repeat' split
  all_goals simp_all
theorem spec_l1In_eq (a b c : Int) : spec_l1In.f a b c = some (inB a b c) := by unfold spec_l1In.f inB; split <;> rfl
theorem spec_ValOk_eq (a b : Int) (s : ByteArray) : spec_ValOk.f a b s = some (valOkM a b (bytesOf s)) := by
  unfold spec_ValOk.f valOkM
  simp only [spec_l1In_eq, empty_toList, size_len, Option.bind_some]
  repeat' split
  all_goals simp_all
theorem spec_Fits_eq (p0 p1 : Int) (p2 p3 : Bool) (v0 v1 : Int) (v2 : ByteArray) : spec_Fits.f p0 p1 p2 p3 v0 v1 v2 = some (fitsM p1 p2 v0 v1 (bytesOf v2)) := by
  unfold spec_Fits.f fitsM
  rw [spec_ValOk_eq]
  simp only [Option.bind_some]
  repeat' split
  all_goals simp_all
def fitsP (x : S119 × S116) : Bool := fitsM x.1.f1 x.1.f2 x.2.f0 x.2.f1 (bytesOf x.2.f2)
def fitsAllM (l : List (S119)) (vs : List (S116)) : Bool := if l.length < vs.length then false else if (l.zip vs).all fitsP = true then true else false
theorem zip_at {α β : Type} {l : List α} {m : List β} {i : Nat} {x : α × β} (h : (l.zip m)[i]? = some x) : l[i]? = some x.1 ∧ m[i]? = some x.2 := by
  rw [List.getElem?_zip_eq_some] at h; exact h
theorem spec_FitsAll_ev (l : List (S119)) (vs : List (S116)) (hs : l.length ≤ 281474976710656) : Ev (fun k => spec_FitsAll.f k l vs) (fitsAllM l vs) := by
  unfold spec_FitsAll.f fitsAllM
  refine ev_ite (fun h => by rw [if_pos (by omega)]; exact ev_some rfl) (fun h => ?_)
  rw [if_neg (by omega)]
  have hz : (l.zip vs).length = vs.length := by rw [List.length_zip]; omega
  refine ev_all (fun k i => spec_FitsAll.l0 k l vs i) (l.zip vs) fitsP true ?_ ?_
  · refine Ev.step (fun k => by rw [spec_FitsAll.l0]) ?_
    exact ev_neg (by omega) (ev_some rfl)
  · intro i x r hi hx ih
    obtain ⟨h1, h2⟩ := zip_at hx
    refine Ev.step (fun k => by rw [spec_FitsAll.l0]) ?_
    refine ev_pos (by omega) (ev_pos (by omega) (ev_pos (by omega) ?_))
    rw [wrap_succ (by omega), show rd_T119 l (i : Int) = x.1 from getD_at h1, show rd_T116 vs (i : Int) = x.2 from getD_at h2]
    refine Ev.bind (ev_c (spec_Fits_eq _ _ _ _ _ _ _)) ?_
    exact ev_ite (fun h => by rw [if_pos (show fitsP x = true from h)]; exact ih) (fun h => by rw [if_neg (show ¬ fitsP x = true from h)]; exact ev_some rfl)
theorem impl_FitsAll_ev (l : List (S119)) (vs : List (S116)) (hs : l.length ≤ 281474976710656) : Ev (fun k => impl_FitsAll.f k l vs) (fitsAllM l vs) := by
  unfold impl_FitsAll.f fitsAllM
  refine ev_ite (fun h => by rw [if_pos (by omega)]; exact ev_some rfl) (fun h => ?_)
  rw [if_neg (by omega)]
  have hz : (l.zip vs).length = vs.length := by rw [List.length_zip]; omega
  refine ev_all (fun k i => impl_FitsAll.l0 k l vs (vs.length : Int) i) (l.zip vs) fitsP true ?_ ?_
  · refine Ev.step (fun k => by rw [impl_FitsAll.l0]) ?_
    exact ev_neg (by omega) (ev_some rfl)
  · intro i x r hi hx ih
    obtain ⟨h1, h2⟩ := zip_at hx
    refine Ev.step (fun k => by rw [impl_FitsAll.l0]) ?_
    refine ev_pos (by omega) (ev_pos (by omega) (ev_pos (by omega) (ev_pos (by omega) ?_)))
    rw [wrap_succ (by omega), show rd_T119 l (i : Int) = x.1 from getD_at h1, show rd_T116 vs (i : Int) = x.2 from getD_at h2]
    refine Ev.bind (ev_c (impl_Fits_eq _ _ _ _ _ _ _)) ?_
    exact ev_ite (fun h => by rw [if_pos (show fitsP x = true from h)]; exact ih) (fun h => by rw [if_neg (show ¬ fitsP x = true from h)]; exact ev_some rfl)
theorem spec_PartOk_eq (a b : Int) (c d : Bool) : spec_PartOk.f a b c d = some (partOkM a b) := by
  unfold spec_PartOk.f partOkM
  rw [spec_l1In_eq, spec_l1In_eq]
  by_cases h : inB a 0 9 = true <;> simp [h]
theorem spec_PlanOk_ev (l : List (S119)) (hs : l.length ≤ 281474976710656) : Ev (fun k => spec_PlanOk.f k l) (if l.all (fun p => partOkM p.f0 p.f1) = true then decide ((l.length : Int) ≤ 6) else false) := by
  refine ev_all (fun k i => spec_PlanOk.l0 k l i) l (fun p => partOkM p.f0 p.f1) (decide ((l.length : Int) ≤ 6)) ?_ ?_
  · refine Ev.step (fun k => by rw [spec_PlanOk.l0]) ?_
    exact ev_neg (by omega) (ev_some rfl)
  · intro i x r hi hx ih
    refine Ev.step (fun k => by rw [spec_PlanOk.l0]) ?_
    refine ev_pos (by omega) (ev_pos (by omega) ?_)
    rw [wrap_succ (by omega), show rd_T119 l (i : Int) = x from getD_at hx]
    refine Ev.bind (ev_c (spec_PartOk_eq _ _ _ _)) ?_
    refine ev_ite (fun h => by rw [if_pos h]; exact ih) (fun h => by rw [if_neg h]; exact ev_some rfl)
def planOkM (l : List (S119)) : Bool := if l.all (fun p => partOkM p.f0 p.f1) = true then decide ((l.length : Int) ≤ 6) else false
def rowOkM (l : List (S119)) (vs : List (S116)) : Bool := if planOkM l = true then (if (vs.length : Int) = (l.length : Int) then fitsAllM l vs else false) else false
theorem spec_RowOk_ev (l : List (S119)) (vs : List (S116)) (hs : l.length ≤ 281474976710656) : Ev (fun k => spec_RowOk.f k l vs) (rowOkM l vs) := by
  unfold spec_RowOk.f rowOkM
  refine Ev.bind (spec_PlanOk_ev l hs) ?_
  refine ev_ite (fun h => ?_) (fun h => by rw [if_neg (show ¬ planOkM l = true from h)]; exact ev_some rfl)
  rw [if_pos (show planOkM l = true from h)]
  refine ev_ite (fun h => ?_) (fun h => by rw [if_neg h]; exact ev_some rfl)
  rw [if_pos h]
  exact Ev.bind (spec_FitsAll_ev l vs hs) (ev_some rfl)
theorem impl_RowOk_ev (l : List (S119)) (vs : List (S116)) (hs : l.length ≤ 281474976710656) : Ev (fun k => impl_RowOk.f k l vs) (rowOkM l vs) := by
  unfold impl_RowOk.f rowOkM
  refine Ev.bind (impl_PlanOk_ev l hs) ?_
  refine ev_ite (fun h => ?_) (fun h => by rw [if_neg (show ¬ planOkM l = true from h)]; exact ev_some rfl)
  rw [if_pos (show planOkM l = true from h)]
  refine ev_ite (fun h => ?_) (fun h => by rw [if_neg h]; exact ev_some rfl)
  rw [if_pos h]
  exact Ev.bind (impl_FitsAll_ev l vs hs) (ev_some rfl)
theorem impl_addU_loop (s : List Int) (n : Int) (hs : s.length < 140737488355317) (h0 : 0 ≤ n) (h1 : n ≤ 1000000) : Ev (fun k => impl_addU.l0 k s n) (s ++ groups n) := by
  refine ev_groups (fun k s n => impl_addU.l0 k s n) ?_ ?_ s n hs h0 h1
  · intro s n r hs h0 h1 ih
    refine Ev.step (fun k => by rw [impl_addU.l0]) ?_
    refine ev_pos h0 (ev_pos (by omega) ?_)
    rw [Int.tmod_eq_emod_of_nonneg (by omega), Int.tdiv_eq_ediv_of_nonneg (by omega), wrap_id (by omega) (by omega), wrap_id (by omega) (by omega), show (n % 128 + 128) % 256 = n % 128 + 128 by omega]
    exact ih
  · intro s n hs h0 h1
    refine Ev.step (fun k => by rw [impl_addU.l0]) ?_
    refine ev_neg (by omega) (ev_pos (by omega) (ev_some ?_))
    rw [show n % 256 = n by omega]
theorem impl_addU_ev (l : List Int) (n : Int) (hs : l.length < 140737488355317) : Ev (fun k => impl_addU.f k l n) (l ++ uM n) := by
  have hb := clampU_bd n
  unfold impl_addU.f impl_clamp.f
  refine Ev.bind (ev_c rfl) ?_
  rw [clampU_mx]
  exact impl_addU_loop _ _ hs hb.1 hb.2
theorem impl_bytesOf_loop : ∀ (d : Nat) (x : Int) (n : Nat), x < 256 ^ d → n + d ≤ 100 → Ev (fun k => impl_bytesOf.l0 k x (n : Int)) (((n + (beM d x).length : Nat)) : Int) := by
  intro d
  induction d with
  | zero =>
    intro x n hx _
    have hx0 : ¬ x > 0 := by rw [Int.pow_zero] at hx; omega
    refine Ev.step (fun k => by rw [impl_bytesOf.l0]) ?_
    exact ev_neg hx0 (ev_some rfl)
  | succ d ih =>
    intro x n hx hs
    refine Ev.step (fun k => by rw [impl_bytesOf.l0]) ?_
    rw [beM, wrap_succ (by omega)]
    refine ev_ite (fun h => ?_) (fun h => by rw [if_neg h]; exact ev_some rfl)
    rw [if_pos h]
    refine ev_eq (ih (x / 256) (n + 1) ?_ (by omega)) (by rw [List.length_append, List.length_singleton]; omega)
    rw [Int.pow_succ] at hx
    exact Int.ediv_lt_of_lt_mul (by omega) hx
theorem impl_bytesOf_ev (x : Int) (hx : x < 256 ^ 7) : Ev (fun k => impl_bytesOf.f k x) ((beM 7 x).length : Int) := by
  unfold impl_bytesOf.f
  exact ev_eq (impl_bytesOf_loop 7 x 0 hx (by omega)) (by simp)
theorem impl_addBytes_loop (x c : Int) (f : Int → Int) (hf : ∀ b, 0 ≤ b → b ≤ 255 → Go.bits .xor .u8 b c = f b) : ∀ (n : Nat) (s : List Int), n ≤ 7 → s.length + n < 140737488355328 → Ev (fun k => impl_addBytes.l0 k s x c ((n : Int) - 1)) (s ++ (digM x n).map f) := by
  intro n
  induction n with
  | zero =>
    intro s _ _
    refine Ev.step (fun k => by rw [impl_addBytes.l0]) (ev_neg (by omega) (ev_some ?_))
    simp [digM]
  | succ n ih =>
    intro s hn hs
    refine Ev.step (fun k => by rw [impl_addBytes.l0]) ?_
    have e : ((n + 1 : Nat) : Int) - 1 = (n : Int) := by omega
    rw [e, wrap_id (x := 8 * (n : Int)) (by omega) (by omega), wrap_id (x := (n : Int) - 1) (by omega) (by omega)]
    refine ev_pos (by omega) (ev_pos (by omega) (ev_pos (by omega) ?_))
    rw [shr_at x n (by omega), hf _ (by omega) (by omega)]
    refine ev_eq (ih (s ++ [f (x / 256 ^ n % 256)]) (by omega) ?_) ?_
    · rw [List.length_append, List.length_singleton]; omega
    · simp [digM]
theorem impl_addBytes_ev (l : List Int) (x c : Int) (f : Int → Int) (hf : ∀ b, 0 ≤ b → b ≤ 255 → Go.bits .xor .u8 b c = f b) (n : Nat) (hn : n ≤ 7) (hs : l.length + n < 140737488355328) : Ev (fun k => impl_addBytes.f k l x (n : Int) c) (l ++ (digM x n).map f) := by
  unfold impl_addBytes.f
  rw [wrap_id (by omega) (by omega)]
  exact impl_addBytes_loop x c f hf n l hn hs
theorem impl_addVar_ev (l : List Int) (n : Int) (hs : l.length < 140737488355300) : Ev (fun k => impl_addVar.f k l n) (l ++ varM n) := by
  have hb := clampV_bd n
  unfold impl_addVar.f impl_clamp.f varM
  refine Ev.bind (ev_c rfl) ?_
  rw [clampV_mx]
  have n1 := beM_len 7 (clampV n)
  have n2 := beM_len 7 (-1 - clampV n)
  refine ev_ite (fun h => ?_) (fun h => ?_)
  · rw [if_pos h]
    refine Ev.bind (impl_bytesOf_ev _ (by omega)) (ev_pos (by omega) ?_)
    rw [wrap_id (by omega) (by omega), show (128 + ((beM 7 (clampV n)).length : Int)) % 256 = 128 + ((beM 7 (clampV n)).length : Int) by omega]
    refine Ev.bind (impl_addBytes_ev _ (clampV n) 0 (fun b => b) flip_0 _ n1 (by simp; omega)) (ev_some ?_)
    rw [← beM_dig]
    simp
  · rw [if_neg h, wrap_id (x := -1 - clampV n) (by omega) (by omega)]
    refine Ev.bind (impl_bytesOf_ev _ (by omega)) (ev_pos (by omega) ?_)
    rw [wrap_id (by omega) (by omega), show (127 - ((beM 7 (-1 - clampV n)).length : Int)) % 256 = 127 - ((beM 7 (-1 - clampV n)).length : Int) by omega]
    refine Ev.bind (impl_addBytes_ev _ (-1 - clampV n) 255 (fun b => 255 - b) flip_r _ n2 (by simp; omega)) (ev_some ?_)
    rw [← beM_dig]
    simp
theorem impl_addText_ev (l : List Int) (s : ByteArray) (hs : l.length + s.size < 140737488355310) : Ev (fun k => impl_addText.f k l s) (l ++ uM s.size ++ bytesOf s) := by
  have hb := uM_len s.size
  unfold impl_addText.f
  refine Ev.bind (impl_addU_ev l _ (by omega)) (ev_pos (by simp only [List.length_append]; omega) (ev_some rfl))
theorem impl_Crc_ev (l : List Int) (hs : l.length ≤ 281474976710656) (hb : ∀ b ∈ l, 0 ≤ b ∧ b ≤ 255) : Ev (fun k => impl_Crc.f k l) (crcM l) := by
  unfold impl_Crc.f
  have h := ev_listI0 (fun k (x : Nat) i => impl_Crc.l0 k (x : Int) l (l.length : Int) i) l (fun x _ => x < 2 ^ 32) (fun x _ r => ((crcFold x r ^^^ 4294967295 : Nat) : Int)) 4294967295 (by decide) ?_ ?_
  · exact h
  · intro x hI
    refine Ev.step (fun k => by rw [impl_Crc.l0]) ?_
    refine ev_neg (by omega) (ev_some ?_)
    rw [show Go.bits .xor .u32 4294967295 (x : Int) = ((4294967295 ^^^ x : Nat) : Int) from xor_u32 4294967295 x (by decide) hI]
    have := Nat.xor_lt_two_pow (show 4294967295 < 2 ^ 32 by decide) hI
    rw [wrap_id (by omega) (by omega)]
    show _ = ((x ^^^ 4294967295 : Nat) : Int)
    rw [Nat.xor_comm]
  · intro x i b r hI hi hx hd ih
    have hbb := hb b (List.mem_of_getElem? hx)
    refine Ev.step (fun k => by rw [impl_Crc.l0]) ?_
    refine ev_pos (by omega) (ev_pos (by omega) (ev_pos (by omega) ?_))
    rw [show rd l (i : Int) = b from getD_at hx, show b % 4294967296 = b by omega]
    obtain ⟨c, rfl⟩ := Int.eq_ofNat_of_zero_le hbb.1
    rw [xor_u32 x c hI (by omega)]
    refine ev_eight (fun k (y : Nat) j => impl_Crc.l1 k (y : Int) l (l.length : Int) (i : Int) j) _ ?_ (x ^^^ c) (Nat.xor_lt_two_pow hI (by omega)) ?_
    · intro y j hy hj ih2
      refine Ev.step (fun k => by rw [impl_Crc.l1]) ?_
      refine ev_pos (by omega) ?_
      rw [and1_u32 y hy, wrap_succ (by omega)]
      unfold crcStep at ih2
      refine ev_ite (fun h => ?_) (fun h => ?_)
      · rw [if_pos (by omega)] at ih2
        rw [show ((y : Int) / 2) = ((y / 2 : Nat) : Int) by omega, show ((2197175160 : Int)) = ((2197175160 : Nat) : Int) from rfl, xor_u32 (y / 2) 2197175160 (by omega) (by decide)]
        exact ih2
      · rw [if_neg (by omega)] at ih2
        rw [show ((y : Int) / 2) = ((y / 2 : Nat) : Int) by omega]
        exact ih2
    · refine Ev.step (fun k => by rw [impl_Crc.l1]) ?_
      refine ev_neg (by omega) ?_
      rw [wrap_succ (by omega)]
      exact ih (crcByte x c) (crcByte_lt hI hbb.2)
theorem impl_addSum_ev (l : List Int) (hs : l.length < 140737488355310) (hb : ∀ b ∈ l, 0 ≤ b ∧ b ≤ 255) : Ev (fun k => impl_addSum.f k l) (l ++ sum4 (crcM l)) := by
  unfold impl_addSum.f
  refine Ev.bind (impl_Crc_ev l (by omega) hb) (Ev.bind (ev_c rfl) (ev_pos (by simp; omega) (ev_some rfl)))
def rowB (vs : List (S116)) : List Int := uM vs.length ++ vs.flatMap (fun v => valM v.f0 v.f1 v.f2)
def encM (l : List (S119)) (vs : List (S116)) : List Int := if rowOkM l vs = true then rowB vs ++ sum4 (crcM (rowB vs)) else []
theorem flat_bytes {β : Type} (l : List β) (f : β → List Int) (h : ∀ x, ∀ b ∈ f x, 0 ≤ b ∧ b ≤ 255) : ∀ b ∈ l.flatMap f, 0 ≤ b ∧ b ≤ 255 := by
  intro b hb
  obtain ⟨x, _, hx⟩ := List.mem_flatMap.1 hb
  exact h x b hx
theorem rowB_bytes (vs : List (S116)) : ∀ b ∈ rowB vs, 0 ≤ b ∧ b ≤ 255 := app_bytes (uM_bytes _) (flat_bytes _ _ fun _ => valM_bytes _ _ _)
def valSz (vs : List (S116)) : Nat := (vs.map fun v => v.f2.size).sum
theorem sum_valM (vs : List (S116)) : (vs.map fun v => (valM v.f0 v.f1 v.f2).length).sum ≤ 11 * vs.length + valSz vs := by
  unfold valSz
  induction vs with
  | nil => simp
  | cons v r ih =>
    have := valM_len v.f0 v.f1 v.f2
    simp only [List.map_cons, List.sum_cons, List.length_cons]
    omega
theorem rowB_len (vs : List (S116)) : (rowB vs).length ≤ 3 + 11 * vs.length + valSz vs := by
  have h := sum_valM vs
  have h2 := uM_len vs.length
  unfold rowB
  rw [List.length_append, flatMap_len]
  omega
theorem encM_len (l : List (S119)) (vs : List (S116)) : (encM l vs).length ≤ 7 + 11 * vs.length + valSz vs := by
  unfold encM
  split
  · have := rowB_len vs
    rw [List.length_append, show (sum4 (crcM (rowB vs))).length = 4 from rfl]
    omega
  · exact Nat.zero_le _
theorem valM_app (s : List Int) (k n : Int) (t : ByteArray) : s ++ valM k n t = (s ++ uM k) ++ (if k = 1 ∨ k = 2 then varM n else if k = 3 then txtM t else if k = 4 then [n % 256] else []) := by
  unfold valM; rw [List.append_assoc]
theorem impl_EncodeRow_ev (l : List (S119)) (vs : List (S116)) (hl : l.length ≤ 1048576) (hs : vs.length ≤ 1048576) (hz : valSz vs ≤ 2000000) : Ev (fun k => impl_EncodeRow.f k l vs) (encM l vs) := by
  unfold impl_EncodeRow.f encM
  refine Ev.bind (impl_RowOk_ev l vs (by omega)) ?_
  refine ev_ite (fun h => ?_) (fun h => by rw [if_neg h]; exact ev_some rfl)
  rw [if_pos h]
  refine Ev.bind (impl_addU_ev _ _ (by simp)) ?_
  rw [List.nil_append]
  have hl2 := uM_len vs.length
  have hb := sum_valM vs
  unfold rowB
  refine ev_flatB (fun k s i => impl_EncodeRow.l0 k s vs vs.length i) vs (fun v => valM v.f0 v.f1 v.f2) (fun b => b ++ sum4 (crcM b)) 100000000 (fun _ => valM_bytes _ _ _) ?_ ?_ (uM vs.length) (by omega) (uM_bytes _)
  · intro s hS hbs
    refine Ev.step (fun k => by rw [impl_EncodeRow.l0]) (ev_neg (by omega) ?_)
    exact Ev.bind (impl_addSum_ev s (by omega) hbs) (ev_some rfl)
  · intro s i x r hS hi hx ih
    have hk := uM_len x.f0
    have hv : (valM x.f0 x.f1 x.f2).length = (uM x.f0).length + (if x.f0 = 1 ∨ x.f0 = 2 then varM x.f1 else if x.f0 = 3 then txtM x.f2 else if x.f0 = 4 then [x.f1 % 256] else []).length := by unfold valM; rw [List.length_append]
    rw [valM_app] at ih
    refine Ev.step (fun k => by rw [impl_EncodeRow.l0]) (ev_pos (by omega) (ev_pos (by omega) (ev_pos (by omega) ?_)))
    rw [show rd_T116 vs (i : Int) = x from getD_at hx]
    refine Ev.bind (impl_addU_ev s x.f0 (by omega)) ?_
    have tail : ∀ c : Bool, c = decide (x.f0 = 1 ∨ x.f0 = 2) → Ev (fun k => impl_EncodeRow.j1 k (s ++ uM x.f0) vs vs.length (i : Int) x.f0 c x.f0 x.f1 x.f2) r := by
      intro c hc
      refine Ev.step (fun k => by rw [impl_EncodeRow.j1]) ?_
      rw [wrap_succ (by omega), hc]
      refine ev_ite (fun h => ?_) (fun h => ?_)
      · have h' := of_decide_eq_true h
        rw [if_pos h'] at ih hv
        exact Ev.bind (impl_addVar_ev (s ++ uM x.f0) x.f1 (by rw [List.length_append]; omega)) ih
      · have h' : ¬ (x.f0 = 1 ∨ x.f0 = 2) := fun h2 => h (decide_eq_true h2)
        rw [if_neg h'] at ih hv
        refine ev_ite (fun h3 => ?_) (fun h3 => ?_)
        · rw [if_pos h3] at ih hv
          have hx2 := bytesOf_length x.f2
          have := impl_addText_ev (s ++ uM x.f0) x.f2 (by rw [List.length_append]; unfold txtM at hv; rw [List.length_append] at hv; omega)
          rw [List.append_assoc] at this
          exact Ev.bind this ih
        · rw [if_neg h3] at ih hv
          refine ev_ite (fun h4 => ?_) (fun h4 => ?_)
          · rw [if_pos h4] at ih
            exact ev_pos (by rw [List.length_append]; omega) ih
          · rw [if_neg h4, List.append_nil] at ih
            exact ih
    refine ev_ite (fun h => tail _ (by simp [h])) (fun h => tail _ ?_)
    by_cases h2 : x.f0 = 2
    · simp [h2]
    · simp [h, h2]
theorem impl_GetU_round (b : List Int) (at_ : Nat) (hl : b.length ≤ 1000000000) (ha : at_ ≤ 1000000000) (hb : ∀ x ∈ b, 0 ≤ x ∧ x ≤ 255) : ∀ (d i : Nat) (v : Int), i + d = 3 → 0 ≤ v → v < 128 ^ i → Ev (fun k => impl_GetU.l0 k b (at_ : Int) v (i : Int)) (tripU at_ (getUR d i v (b.drop (at_ + i)))) := by
  intro d
  induction d with
  | zero =>
    intro i v hi h0 h1
    refine Ev.step (fun k => by rw [impl_GetU.l0]) (ev_neg (by omega) (Ev.step (fun k => by rw [impl_GetU.j1]) (ev_neg (by simp) (ev_some (by rfl)))))
  | succ d ih =>
    intro i v hi h0 h1
    have H1 := Aside0.mk h1
    clear h1
    have w1 : wrap64 ((at_ : Int) + i) = ((at_ + i : Nat) : Int) := by rw [wrap_id (by omega) (by omega)]; omega
    refine Ev.step (fun k => by rw [impl_GetU.l0]) (ev_pos (by omega) (ev_pos (by omega) ?_))
    rw [wrap_id (x := (b.length : Int) - i) (by omega) (by omega)]
    by_cases c : at_ + i < b.length
    · refine Ev.step (fun k => by rw [impl_GetU.j1]) (ev_pos (by rw [decide_eq_true]; omega) ?_)
      rw [w1]
      have hx : b[at_ + i]? = some b[at_ + i] := List.getElem?_eq_getElem c
      have hd := List.drop_eq_getElem_cons c
      have hx0 := hb _ (List.getElem_mem c)
      generalize b[at_ + i] = x at hx hd hx0
      rw [hd, rd_at hx, wrap_id (x := x) (by omega) (by omega)]
      have w2 : wrap64 (7 * (i : Int)) = 7 * (i : Int) := wrap_id (by omega) (by omega)
      have w3 : wrap64 ((i : Int) + 1) = ((i + 1 : Nat) : Int) := wrap_succ (by omega)
      have w4 : wrap64 (((at_ + i : Nat) : Int) + 1) = ((at_ + (i + 1) : Nat) : Int) := by rw [wrap_id (by omega) (by omega)]; omega
      rw [w2, w3, w4, Int.tmod_eq_emod_of_nonneg (by omega), shl_at (x % 128) i (by omega) (by omega) (by omega)]
      have f1 : (0 : Int) ≤ ((at_ + i : Nat) : Int) := by omega
      have f2 : ((at_ + i : Nat) : Int) < (b.length : Int) := by omega
      have f3 : (0 : Int) ≤ 7 * (i : Int) := by omega
      have em : x > 127 → x % 128 = x - 128 := fun _ => by omega
      have el : ¬ x > 127 → x % 128 = x := fun _ => by omega
      have hi0 : (i : Int) > 0 ↔ i > 0 := by omega
      have g7 : x ≥ 128 ↔ x > 127 := by omega
      have i3 : i + 1 + d = 3 := by omega
      have BD := Aside0.mk (grp_bd i (by omega) (x % 128) v (by omega) (by omega) h0 H1.out)
      rw [wrap_id (x := v + x % 128 * 128 ^ i) (Int.le_trans (by decide) BD.out.1) (Int.le_trans BD.out.2.2.1 (by decide))]
      refine ev_pos f1 (ev_pos f2 (ev_pos f3 ?_))
      refine ev_ite (fun g => ?_) (fun g => ?_)
      · rw [getUR, if_pos (g7.1 g)]
        rw [em (g7.1 g)] at BD ⊢
        have := ih (i + 1) (v + (x - 128) * 128 ^ i) i3 BD.out.1 BD.out.2.1
        rwa [← Nat.add_assoc] at this
      · rw [getUR, if_neg (fun h => g (g7.2 h))]
        rw [el (fun h => g (g7.2 h))]
        refine ev_ite (fun g2 => ?_) (fun g2 => ?_)
        · refine ev_ite (fun g3 => ?_) (fun g3 => ?_)
          · rw [if_pos ⟨g2, hi0.1 g3⟩]; exact ev_some (by rfl)
          · rw [if_neg (show ¬ (x = 0 ∧ i > 0) from fun h => g3 (hi0.2 h.2))]
            refine ev_ite (fun g4 => ?_) (fun g4 => ?_)
            · rw [if_pos (show v + x * 128 ^ i > 1000000 from g4)]; exact ev_some (by rfl)
            · rw [if_neg (show ¬ v + x * 128 ^ i > 1000000 from g4)]; exact ev_some (by rfl)
        · rw [if_neg (show ¬ (x = 0 ∧ i > 0) from fun h => g2 h.1)]
          refine ev_ite (fun g4 => ?_) (fun g4 => ?_)
          · rw [if_pos (show v + x * 128 ^ i > 1000000 from g4)]; exact ev_some (by rfl)
          · rw [if_neg (show ¬ v + x * 128 ^ i > 1000000 from g4)]; exact ev_some (by rfl)
    · have hd : b.drop (at_ + i) = [] := List.drop_eq_nil_of_le (by omega)
      rw [hd, getUR]
      exact Ev.step (fun k => by rw [impl_GetU.j1]) (ev_neg (by rw [decide_eq_true_iff]; omega) (ev_some (by rfl)))
theorem impl_GetU_ev (b : List Int) (at_ : Nat) (hl : b.length ≤ 1000000000) (ha : at_ ≤ 1000000000) (hb : ∀ x ∈ b, 0 ≤ x ∧ x ≤ 255) : Ev (fun k => impl_GetU.f k b (at_ : Int)) (tripU at_ (getUM (b.drop at_))) := by
  unfold impl_GetU.f
  exact impl_GetU_round b at_ hl ha hb 3 0 0 (by omega) (by omega) (by simp)
theorem impl_copyBytes_eq (l : List Int) (hl : l.length ≤ 1000000000) : impl_copyBytes.f l = some l := by
  unfold impl_copyBytes.f
  rw [if_pos (by simp; omega), List.nil_append]
theorem impl_PutSum_ev (l : List Int) (hl : l.length ≤ 1000000000) (hb : ∀ b ∈ l, 0 ≤ b ∧ b ≤ 255) : Ev (fun k => impl_PutSum.f k l) (l ++ sum4 (crcM l)) := by
  unfold impl_PutSum.f
  exact Ev.bind (ev_c (impl_copyBytes_eq l hl)) (Ev.bind (impl_addSum_ev l (by omega) hb) (ev_some rfl))
theorem impl_GetSum_ev (b : List Int) (hl : b.length ≤ 1000000000) (hb : ∀ x ∈ b, 0 ≤ x ∧ x ≤ 255) : Ev (fun k => impl_GetSum.f k b) (getSumM b) := by
  unfold impl_GetSum.f getSumM
  refine ev_ite (fun g => ?_) (fun g => ?_)
  · rw [if_pos (by omega)]; exact ev_some (by rfl)
  · rw [if_neg (by omega), wrap_id (by omega) (by omega), show ((b.length : Int) - 4).toNat = b.length - 4 by omega]
    have hbt : ∀ x ∈ b.take (b.length - 4), 0 ≤ x ∧ x ≤ 255 := fun x hx => hb x (List.mem_of_mem_take hx)
    have lt : (b.take (b.length - 4)).length ≤ 1000000000 := by rw [List.length_take]; omega
    refine ev_pos (by omega) (ev_pos (by omega) (Ev.bind (ev_c (impl_copyBytes_eq _ lt)) (Ev.bind (impl_PutSum_ev _ lt hbt) ?_)))
    have e : (strOfNums (b.take (b.length - 4) ++ sum4 (crcM (b.take (b.length - 4))))).toList = (strOfNums b).toList ↔ b.drop (b.length - 4) = sum4 (crcM (b.take (b.length - 4))) := by
      rw [strOf_eq (app_bytes hbt (sum4_bytes _)) hb]
      constructor
      · intro h
        have h2 : b.take (b.length - 4) ++ sum4 (crcM (b.take (b.length - 4))) = b.take (b.length - 4) ++ b.drop (b.length - 4) := by rw [h, List.take_append_drop]
        exact (List.append_cancel_left h2).symm
      · intro h
        rw [← h, List.take_append_drop]
    refine ev_ite (fun h => ?_) (fun h => ?_)
    · rw [if_pos (e.1 h)]; exact ev_some (by rfl)
    · rw [if_neg (fun h2 => h (e.2 h2))]; exact ev_some (by rfl)
theorem impl_GetText_ev (b : List Int) (at_ : Nat) (hl : b.length ≤ 1000000000) (ha : at_ ≤ b.length) (hb : ∀ x ∈ b, 0 ≤ x ∧ x ≤ 255) : Ev (fun k => impl_GetText.f k b (at_ : Int)) (tripT at_ (getTextM (b.drop at_))) := by
  have hbd : ∀ x ∈ b.drop at_, 0 ≤ x ∧ x ≤ 255 := fun x hx => hb x (List.mem_of_mem_drop hx)
  have hu := impl_GetU_ev b at_ hl (by omega) hb
  unfold impl_GetText.f getTextM
  cases hg : getUM (b.drop at_) with
  | none =>
    rw [hg] at hu
    have hu2 : Ev (fun k => impl_GetU.f k b (at_ : Int)) ((0, 0, false) : Int × Int × Bool) := hu
    exact Ev.bind hu2 (ev_neg (by simp) (ev_some (by rfl)))
  | some p =>
    obtain ⟨n, c⟩ := p
    have ⟨n0, n1, cl, c1, _, _⟩ := getUM_exact hbd hg
    rw [List.length_drop] at cl
    rw [hg] at hu
    have hu2 : Ev (fun k => impl_GetU.f k b (at_ : Int)) ((n, ((at_ + c : Nat) : Int), true) : Int × Int × Bool) := hu
    refine Ev.bind hu2 (ev_pos rfl ?_)
    dsimp only
    rw [wrap_id (x := (b.length : Int) - ((at_ + c : Nat) : Int)) (by omega) (by omega), wrap_id (x := ((at_ + c : Nat) : Int) + n) (by omega) (by omega), List.length_drop]
    refine ev_ite (fun g => ?_) (fun g => ?_)
    · rw [if_pos (show n > ((b.length - at_ : Nat) : Int) - c by omega)]; exact ev_some (by rfl)
    · rw [if_neg (show ¬ n > ((b.length - at_ : Nat) : Int) - c by omega)]
      refine ev_pos (by omega) (ev_pos (by omega) (ev_pos (by omega) (ev_some ?_)))
      have e : (((at_ + c : Nat) : Int) + n).toNat = at_ + c + n.toNat := by omega
      rw [e, Int.toNat_natCast, List.drop_take, List.drop_drop]
      simp only [tripT]
      rw [show at_ + c + n.toNat - (at_ + c) = n.toNat by omega, show ((at_ + (c + n.toNat) : Nat) : Int) = ((at_ + c : Nat) : Int) + n by omega]
def readN (t : List Int) (n : Int) (f : Bool) : Int × Bool := if (t.length : Int) < n then (0, false) else (foldB 0 (flipIf f (t.take n.toNat)), true)
theorem impl_numberAt_ev (b : List Int) (a : Nat) (n : Int) (c : Int) (f : Bool) (hf : ∀ x, 0 ≤ x → x ≤ 255 → Go.bits .xor .u8 x c = if f = true then 255 - x else x) (hl : b.length ≤ 1000000000) (ha : a ≤ b.length) (h0 : 0 ≤ n) (h1 : n ≤ 7) (hb : ∀ x ∈ b, 0 ≤ x ∧ x ≤ 255) : Ev (fun k => impl_numberAt.f k b (a : Int) n c) (readN (b.drop a) n f) := by
  unfold impl_numberAt.f readN
  rw [List.length_drop]
  refine ev_neg (by omega) ?_
  rw [wrap_id (x := (b.length : Int) - n) (by omega) (by omega)]
  refine Ev.step (fun k => by rw [impl_numberAt.j0]) ?_
  by_cases g : (a : Int) > (b.length : Int) - n
  · rw [if_pos (by omega)]
    exact ev_pos (decide_eq_true g) (ev_some (by rfl))
  · rw [if_neg (by omega)]
    refine ev_neg (by rw [decide_eq_true_iff]; exact g) ?_
    have lt : ((b.drop a).take n.toNat).length = n.toNat := by rw [List.length_take, List.length_drop]; omega
    have hbt : ∀ x ∈ (b.drop a).take n.toNat, 0 ≤ x ∧ x ≤ 255 := fun x hx => hb x (List.mem_of_mem_drop (List.mem_of_mem_take hx))
    have e : flipIf f ((b.drop a).take n.toNat) = ((b.drop a).take n.toNat).map (fun x => if f = true then 255 - x else x) := by
      unfold flipIf
      cases f <;> simp
    rw [e, wrap_id (x := (a : Int) + n) (by omega) (by omega)]
    have ec : (b.take ((a : Int) + n).toNat).drop (a : Int).toNat = (b.drop a).take n.toNat := by
      rw [show ((a : Int) + n).toNat = a + n.toNat by omega, Int.toNat_natCast, List.drop_take, show a + n.toNat - a = n.toNat by omega]
    rw [ec]
    refine ev_pos (by omega) (ev_pos (by omega) (ev_pos (by omega) (Ev.bind (ev_c rfl) ?_)))
    generalize hT : (b.drop a).take n.toNat = T at lt hbt
    refine ev_foldB (fun k v i => impl_numberAt.l0 k c v T (T.length : Int) i) T (by omega) (fun x => if f = true then 255 - x else x) (fun x hx => by have := hbt x hx; split <;> omega) (fun v => (v, true)) ?_ ?_
    · intro v
      exact Ev.step (fun k => by rw [impl_numberAt.l0]) (ev_neg (by omega) (ev_some (by rfl)))
    · intro v i x r g0 g1 hi hx ih
      have bx := hbt x (List.mem_of_getElem? hx)
      have bf : 0 ≤ (if f = true then 255 - x else x) ∧ (if f = true then 255 - x else x) ≤ 255 := by split <;> omega
      refine Ev.step (fun k => by rw [impl_numberAt.l0]) ?_
      rw [rd_at hx, wrap_succ (by omega), hf x bx.1 bx.2, wrap_id (x := if f = true then 255 - x else x) (by omega) (by omega), wrap_id (x := v * 256) (by omega) (by omega), or_byte v _ g0 (by omega) bf.1 (by omega)]
      exact ev_pos (by omega) (ev_pos (by omega) (ev_pos (by omega) ih))
theorem impl_GetVar_ev (b : List Int) (a : Nat) (hl : b.length ≤ 1000000000) (ha : a ≤ b.length) (hb : ∀ x ∈ b, 0 ≤ x ∧ x ≤ 255) : Ev (fun k => impl_GetVar.f k b (a : Int)) (tripU a (getVarM (b.drop a))) := by
  unfold impl_GetVar.f
  refine ev_neg (by omega) (Ev.step (fun k => by rw [impl_GetVar.j0]) ?_)
  by_cases c : a < b.length
  · refine ev_neg (by rw [decide_eq_true_iff]; omega) (ev_pos (by omega) (ev_pos (by omega) ?_))
    have hx : b[a]? = some b[a] := List.getElem?_eq_getElem c
    have hd := List.drop_eq_getElem_cons c
    have hx0 := hb _ (List.getElem_mem c)
    generalize b[a] = x at hx hd hx0
    rw [hd, rd_at hx, wrap_id (x := x) (by omega) (by omega), wrap_id (x := x - 128) (by omega) (by omega), wrap_id (x := 127 - x) (by omega) (by omega)]
    have key : ∀ (n c : Int) (f : Bool), n = lenOf x → f = decide (x < 128) → c = (if f = true then 255 else 0) → (∀ y, 0 ≤ y → y ≤ 255 → Go.bits .xor .u8 y c = if f = true then 255 - y else y) → Ev (fun k => impl_GetVar.j1 k b (a : Int) n c) (tripU a (getVarM (x :: b.drop (a + 1)))) := by
      intro n c f hn hf hc hfl
      refine Ev.step (fun k => by rw [impl_GetVar.j1]) ?_
      by_cases g : inB x 120 135 = true
      · have gx := inB_iff.1 g
        have hn0 : 0 ≤ n ∧ n ≤ 7 := by rw [hn]; unfold lenOf; split <;> omega
        refine ev_neg (by omega) ?_
        rw [show wrap64 ((a : Int) + 1) = ((a + 1 : Nat) : Int) from wrap_succ (by omega)]
        refine Ev.bind (impl_numberAt_ev b (a + 1) n c f hfl hl (by omega) hn0.1 hn0.2 hb) ?_
        have hbt : ∀ y ∈ (b.drop (a + 1)).take n.toNat, 0 ≤ y ∧ y ≤ 255 := fun y hy => hb y (List.mem_of_mem_drop (List.mem_of_mem_take hy))
        simp only [getVarM, if_pos g]
        rw [← hn, ← hf]
        unfold readN
        by_cases t : ((b.drop (a + 1)).length : Int) < n
        · rw [if_pos t, if_pos t]
          exact ev_neg (by simp) (Ev.step (fun k => by rw [impl_GetVar.j2]) (ev_pos rfl (ev_some (by rfl))))
        · rw [if_neg t, if_neg t]
          have bd := foldB_bd _ (flipIf_bytes f hbt)
          rw [flipIf_len, List.length_take] at bd
          have vb : foldB 0 (flipIf f ((b.drop (a + 1)).take n.toNat)) < 256 ^ 7 := Int.lt_of_lt_of_le bd.2 (pow256_7 _ (by omega))
          generalize foldB 0 (flipIf f ((b.drop (a + 1)).take n.toNat)) = v at bd vb
          refine ev_pos rfl (Ev.bind (impl_bytesOf_ev v vb) (Ev.step (fun k => by rw [impl_GetVar.j2]) ?_))
          by_cases e : ((beM 7 v).length : Int) = n
          · rw [if_pos e]
            refine ev_neg (by simp [e]) ?_
            rw [show wrap64 ((a : Int) + 1) = ((a + 1 : Nat) : Int) from wrap_succ (by omega), wrap_id (x := ((a + 1 : Nat) : Int) + n) (by omega) (by omega), wrap_id (x := -1 - v) (by omega) (by omega)]
            have fin : ∀ w, w = negIf f v → Ev (fun k => (impl_in.f w (-1000000000000000) 1000000000000000).bind fun t => (if t = true then some (w, ((a + 1 : Nat) : Int) + n, true) else some (0, 0, false))) (tripU a (if inB (negIf f v) (-1000000000000000) 1000000000000000 = true then some (negIf f v, 1 + n.toNat) else none)) := by
              intro w hw
              rw [← hw]
              refine Ev.bind (ev_c (impl_in_eq _ _ _)) ?_
              refine ev_ite (fun i1 => ?_) (fun i1 => by rw [if_neg i1]; exact ev_some (by rfl))
              rw [if_pos i1]
              refine ev_some ?_
              simp only [tripU]
              congr 2
              omega
            cases f
            · refine ev_pos (by rw [hc]; rfl) (fin v rfl)
            · refine ev_neg (by rw [hc]; simp) (fin (-1 - v) rfl)
          · rw [if_neg e]
            exact ev_pos (by simp [e]) (ev_some (by rfl))
      · have gx : ¬ (120 ≤ x ∧ x ≤ 135) := fun h => g (inB_iff.2 h)
        simp only [getVarM, if_neg g]
        exact ev_pos (by rw [hn]; unfold lenOf; split <;> omega) (ev_some (by rfl))
    refine ev_ite (fun h => ?_) (fun h => ?_)
    · refine key _ 255 true ?_ (by rw [decide_eq_true]; omega) rfl (fun y h0 h1 => by rw [if_pos rfl]; exact flip_r y h0 h1)
      unfold lenOf; rw [if_pos (by omega)]
    · refine key _ 0 false ?_ (by rw [decide_eq_false]; omega) rfl (fun y h0 h1 => by rw [if_neg (by simp)]; exact flip_0 y h0 h1)
      unfold lenOf; rw [if_neg (by omega)]
  · have hd : b.drop a = [] := List.drop_eq_nil_of_le (by omega)
    rw [hd]
    exact ev_pos (decide_eq_true (by omega)) (ev_some (by rfl))
def valRes (a : Nat) : Option (Int × Int × ByteArray × Nat) → Int × Int × ByteArray × Int × Bool → Prop
  | none, t => t.2.2.2.2 = false
  | some (k, n, s, c), t => t = (k, n, s, ((a + c : Nat) : Int), true)
theorem impl_valueAt_ev (b : List Int) (a : Nat) (hl : b.length ≤ 1000000000) (ha : a ≤ b.length) (hb : ∀ x ∈ b, 0 ≤ x ∧ x ≤ 255) : ∃ t, Ev (fun k => impl_valueAt.f k b (a : Int)) t ∧ valRes a (valueM (b.drop a)) t := by
  have hbd : ∀ x ∈ b.drop a, 0 ≤ x ∧ x ≤ 255 := fun x hx => hb x (List.mem_of_mem_drop hx)
  have hu := impl_GetU_ev b a hl (by omega) hb
  unfold impl_valueAt.f valueM
  cases hg : getUM (b.drop a) with
  | none =>
    rw [hg] at hu
    have hu2 : Ev (fun k => impl_GetU.f k b (a : Int)) ((0, 0, false) : Int × Int × Bool) := hu
    exact ⟨(0, 0, ⟨#[]⟩, 0, false), Ev.bind hu2 (ev_neg (by simp) (ev_some (by rfl))), rfl⟩
  | some p =>
    obtain ⟨n, c⟩ := p
    rw [hg] at hu
    have ⟨n0, n1, cl, c1, _, _⟩ := getUM_exact hbd hg
    rw [List.length_drop] at cl
    have red : ∀ t, (∀ cc : Bool, cc = decide (n = 1 ∨ n = 2) → Ev (fun k => impl_valueAt.j0 k b ((a + c : Nat) : Int) true n cc n 0 (⟨#[]⟩ : ByteArray)) t) → Ev (fun k => (impl_GetU.f k b (a : Int)).bind fun bt259 => (if bt259.2.2 = true then (if bt259.1 = 1 then (impl_valueAt.j0 k b bt259.2.1 bt259.2.2 bt259.1 (bt259.1 == 1) bt259.1 0 (⟨#[]⟩ : ByteArray)) else (impl_valueAt.j0 k b bt259.2.1 bt259.2.2 bt259.1 (bt259.1 == 2) bt259.1 0 (⟨#[]⟩ : ByteArray))) else (some (0, 0, (⟨#[]⟩ : ByteArray), 0, false)))) t := by
      intro t h
      have hu2 : Ev (fun k => impl_GetU.f k b (a : Int)) ((n, ((a + c : Nat) : Int), true) : Int × Int × Bool) := hu
      refine Ev.bind hu2 (ev_pos rfl ?_)
      dsimp only
      refine ev_ite (fun g => h _ (by simp [g])) (fun g => h _ ?_)
      by_cases g2 : n = 2
      · simp [g2]
      · simp [g, g2]
    by_cases k12 : n = 1 ∨ n = 2
    · have hv := impl_GetVar_ev b (a + c) hl (by omega) hb
      rw [← List.drop_drop] at hv
      refine ⟨_, red _ (fun cc hcc => Ev.step (fun k => by rw [impl_valueAt.j0]) (ev_pos (by rw [hcc]; exact decide_eq_true k12) (Ev.bind hv (ev_some (by rfl))))), ?_⟩
      simp only [if_pos k12]
      cases hw : getVarM ((b.drop a).drop c) with
      | none => rfl
      | some q => obtain ⟨v, c2⟩ := q; simp only [tripU, valRes, Nat.add_assoc]
    · have hneg : ∀ cc : Bool, cc = decide (n = 1 ∨ n = 2) → ¬ cc = true := fun cc hcc => by rw [hcc, decide_eq_true_iff]; exact k12
      simp only [if_neg k12]
      by_cases k3 : n = 3
      · have hv := impl_GetText_ev b (a + c) hl (by omega) hb
        rw [← List.drop_drop] at hv
        refine ⟨_, red _ (fun cc hcc => Ev.step (fun k => by rw [impl_valueAt.j0]) (ev_neg (hneg cc hcc) (ev_pos k3 (Ev.bind hv (ev_some (by rfl)))))), ?_⟩
        simp only [if_pos k3]
        cases hw : getTextM ((b.drop a).drop c) with
        | none => rfl
        | some q => obtain ⟨v, c2⟩ := q; simp only [tripT, valRes, Nat.add_assoc]
      · simp only [if_neg k3]
        by_cases k4 : n = 4
        · simp only [if_pos k4]
          by_cases lt : a + c < b.length
          · have hx : b[a + c]? = some b[a + c] := List.getElem?_eq_getElem lt
            have hd := List.drop_eq_getElem_cons lt
            have hx0 := hb _ (List.getElem_mem lt)
            generalize b[a + c] = x at hx hd hx0
            refine ⟨(n, x, ⟨#[]⟩, ((a + (c + 1) : Nat) : Int), true), red _ (fun cc hcc => Ev.step (fun k => by rw [impl_valueAt.j0]) (ev_neg (hneg cc hcc) (ev_neg k3 (ev_pos k4 (ev_neg (by omega) (ev_pos (by omega) (ev_pos (by omega) (ev_some ?_)))))))), ?_⟩
            · rw [rd_at hx, wrap_id (x := x) (by omega) (by omega), wrap_succ (by omega), Nat.add_assoc]
            · rw [List.drop_drop, hd]; rfl
          · have hd : b.drop (a + c) = [] := List.drop_eq_nil_of_le (by omega)
            refine ⟨_, red _ (fun cc hcc => Ev.step (fun k => by rw [impl_valueAt.j0]) (ev_neg (hneg cc hcc) (ev_neg k3 (ev_pos k4 (ev_pos (by omega) (ev_some (by rfl))))))), ?_⟩
            rw [List.drop_drop, hd]; rfl
        · simp only [if_neg k4]
          exact ⟨(n, 0, ⟨#[]⟩, ((a + c : Nat) : Int), true), red _ (fun cc hcc => Ev.step (fun k => by rw [impl_valueAt.j0]) (ev_neg (hneg cc hcc) (ev_neg k3 (ev_neg k4 (ev_some (by rfl)))))), rfl⟩
def rowsM : Nat → List Int → Option (List (S116) × List Int)
  | 0, r => some ([], r)
  | n + 1, r => match valueM r with
    | none => none
    | some (k, x, s, c) => match rowsM n (r.drop c) with
      | none => none
      | some (vs, r2) => some (⟨k, x, s⟩ :: vs, r2)
theorem rowsM_exact : ∀ (n : Nat) (r : List Int), (∀ b ∈ r, 0 ≤ b ∧ b ≤ 255) → ∀ vs r2, rowsM n r = some (vs, r2) → vs.length = n ∧ r = vs.flatMap (fun v => valM v.f0 v.f1 v.f2) ++ r2 ∧ valSz vs + r2.length ≤ r.length
  | 0, r, _, vs, r2, h => by
    simp only [rowsM, Option.some.injEq, Prod.mk.injEq] at h
    obtain ⟨rfl, rfl⟩ := h
    exact ⟨rfl, rfl, by simp [valSz]⟩
  | n + 1, r, hb, vs, r2, h => by
    rw [rowsM] at h
    cases hv : valueM r with
    | none => rw [hv] at h; cases h
    | some q =>
      obtain ⟨k, x, s, c⟩ := q
      rw [hv] at h
      simp only at h
      have ⟨e1, e2, e3⟩ := valueM_exact hb hv
      cases hr : rowsM n (r.drop c) with
      | none => rw [hr] at h; cases h
      | some p =>
        obtain ⟨vs1, r1⟩ := p
        rw [hr] at h
        simp only [Option.some.injEq, Prod.mk.injEq] at h
        obtain ⟨rfl, rfl⟩ := h
        have ⟨i1, i2, i3⟩ := rowsM_exact n (r.drop c) (fun b hm => hb b (List.mem_of_mem_drop hm)) vs1 r1 hr
        refine ⟨by rw [List.length_cons, i1], ?_, ?_⟩
        · rw [List.flatMap_cons, List.append_assoc, ← i2]; exact e2
        · rw [List.length_drop] at i3
          simp only [valSz, List.map_cons, List.sum_cons] at i3 ⊢
          omega
def rowEnd (l : List (S119)) : Option (List (S116) × List Int) → List (S116) × Bool
  | none => ([], false)
  | some (vs, r) => if r = [] ∧ rowOkM l vs = true then (vs, true) else ([], false)
def decM (l : List (S119)) (b : List Int) : List (S116) × Bool :=
  if (getSumM b).2 = true then (match getUM (getSumM b).1 with
    | none => ([], false)
    | some (n, c) => if n = l.length ∧ n ≤ 6 then rowEnd l (rowsM n.toNat ((getSumM b).1.drop c)) else ([], false))
  else ([], false)
theorem getSumM_of (b : List Int) : (getSumM b).1.length ≤ b.length ∧ ((getSumM b).2 = true → b = (getSumM b).1 ++ sum4 (crcM (getSumM b).1)) ∧ (¬ (getSumM b).2 = true → (getSumM b).1 = []) ∧ ((∀ x ∈ b, 0 ≤ x ∧ x ≤ 255) → ∀ x ∈ (getSumM b).1, 0 ≤ x ∧ x ≤ 255) := by
  unfold getSumM
  by_cases c : b.length < 4
  · rw [if_pos c]; exact ⟨Nat.zero_le _, fun h => (by cases h), fun _ => rfl, fun _ x hx => (by cases hx)⟩
  · rw [if_neg c]
    by_cases e : b.drop (b.length - 4) = sum4 (crcM (b.take (b.length - 4)))
    · rw [if_pos e]
      refine ⟨by rw [List.length_take]; omega, fun _ => ?_, fun h => absurd rfl h, fun hb x hx => hb x (List.mem_of_mem_take hx)⟩
      show b = b.take (b.length - 4) ++ sum4 (crcM (b.take (b.length - 4)))
      rw [← e, List.take_append_drop]
    · rw [if_neg e]; exact ⟨Nat.zero_le _, fun h => (by cases h), fun _ => rfl, fun _ x hx => (by cases hx)⟩
theorem decM_len (l : List (S119)) (b : List Int) (hb : ∀ x ∈ b, 0 ≤ x ∧ x ≤ 255) : (decM l b).1.length ≤ 6 := by
  unfold decM
  split
  · cases hu : getUM (getSumM b).1 with
    | none => exact Nat.zero_le _
    | some p =>
      obtain ⟨n, c⟩ := p
      simp only
      split
      · rename_i hn
        cases hr : rowsM n.toNat ((getSumM b).1.drop c) with
        | none => exact Nat.zero_le _
        | some q =>
          obtain ⟨vs, r⟩ := q
          have := (rowsM_exact _ _ (fun x hx => (getSumM_of b).2.2.2 hb x (List.mem_of_mem_drop hx)) _ _ hr).1
          simp only [rowEnd]
          split
          · simp only; omega
          · exact Nat.zero_le _
      · exact Nat.zero_le _
  · exact Nat.zero_le _
theorem enc_again (l : List (S119)) (b body : List Int) (n : Int) (c : Nat) (vs : List (S116)) (r : List Int) (hbb : ∀ x ∈ body, 0 ≤ x ∧ x ≤ 255) (hb : b = body ++ sum4 (crcM body)) (hu : getUM body = some (n, c)) (hr : rowsM n.toNat (body.drop c) = some (vs, r)) :
    (encM l vs ≠ [] ∧ encM l vs = b) ↔ (r = [] ∧ rowOkM l vs = true) := by
  have ⟨n0, _, _, _, _, hbody⟩ := getUM_exact hbb hu
  have ⟨hl, hd, _⟩ := rowsM_exact _ _ (fun x hx => hbb x (List.mem_of_mem_drop hx)) _ _ hr
  have e : body = rowB vs ++ r := by
    unfold rowB
    rw [hl, show ((n.toNat : Nat) : Int) = n by omega, List.append_assoc, ← hd]
    exact hbody
  have s4 : ∀ x, (sum4 x).length = 4 := fun _ => rfl
  unfold encM
  constructor
  · intro ⟨h1, h2⟩
    by_cases ok : rowOkM l vs = true
    · rw [if_pos ok] at h2
      refine ⟨?_, ok⟩
      have := congrArg List.length h2
      rw [hb, e] at this
      simp only [List.length_append, s4] at this
      exact List.length_eq_zero_iff.1 (by omega)
    · rw [if_neg ok] at h1; exact absurd rfl h1
  · intro ⟨h1, h2⟩
    rw [if_pos h2]
    rw [h1, List.append_nil] at e
    refine ⟨fun h3 => ?_, by rw [hb, e]⟩
    have := congrArg List.length h3
    simp only [List.length_append, s4, List.length_nil] at this
    omega
theorem impl_DecodeRow_ev (l : List (S119)) (b : List Int) (hll : l.length ≤ 1048576) (hl : b.length ≤ 1048576) (hb : ∀ x ∈ b, 0 ≤ x ∧ x ≤ 255) : Ev (fun k => impl_DecodeRow.f k l b) (decM l b) := by
  unfold impl_DecodeRow.f
  have hs := impl_GetSum_ev b (by omega) hb
  have hg := getSumM_of b
  have hd : decM l b = if (getSumM b).2 = true then (match getUM (getSumM b).1 with
    | none => ([], false)
    | some (n, c) => if n = l.length ∧ n ≤ 6 then rowEnd l (rowsM n.toNat ((getSumM b).1.drop c)) else ([], false))
    else ([], false) := rfl
  rw [hd]
  generalize getSumM b = G at hs hg
  obtain ⟨body, ok⟩ := G
  have hbb := hg.2.2.2 hb
  simp only at hg hbb ⊢
  refine Ev.bind hs ?_
  have hu := impl_GetU_ev body 0 (by omega) (by omega) hbb
  rw [List.drop_zero] at hu
  have bad : ∀ (x8 x9 : Int), Ev (fun k => impl_DecodeRow.j0 k l b body x8 x9 true) (([] : List (S116)), false) := fun x8 x9 => Ev.step (fun k => by rw [impl_DecodeRow.j0]) (ev_pos rfl (ev_some (by rfl)))
  by_cases h1 : ok = true
  rotate_left
  · rw [if_neg h1]; exact Ev.bind hu (ev_neg h1 (bad _ _))
  rw [if_pos h1]
  have hB := hg.2.1 h1
  cases hgu : getUM body with
  | none =>
    rw [hgu] at hu
    have hu2 : Ev (fun k => impl_GetU.f k body 0) ((0, 0, false) : Int × Int × Bool) := hu
    exact Ev.bind hu2 (ev_pos h1 (ev_neg (by simp) (bad _ _)))
  | some p =>
    obtain ⟨n, c⟩ := p
    have ⟨n0, n1, cl, c1, _, _⟩ := getUM_exact hbb hgu
    rw [hgu] at hu
    have hu2 : Ev (fun k => impl_GetU.f k body 0) ((n, ((c : Nat) : Int), true) : Int × Int × Bool) := by rw [show (c : Nat) = 0 + c by omega]; exact hu
    refine Ev.bind hu2 (ev_pos h1 (ev_pos rfl ?_))
    dsimp only
    refine ev_ite (fun h2 => ?_) (fun h2 => by rw [if_neg (fun h => h2 h.1)]; exact bad _ _)
    by_cases h3 : n > 6
    · rw [if_neg (fun h => by omega), decide_eq_true h3]; exact bad _ _
    · rw [if_pos ⟨h2, by omega⟩, decide_eq_false h3]
      refine Ev.step (fun k => by rw [impl_DecodeRow.j0]) (ev_neg (by simp) ?_)
      -- the loop
      have loop : ∀ (d i a : Nat) (out : List (S116)), (i : Int) + d = n → out.length = i → a ≤ body.length → ∀ R, R = (match rowsM d (body.drop a) with
          | none => (([] : List (S116)), false)
          | some (vs, _) => if encM l (out ++ vs) ≠ [] ∧ encM l (out ++ vs) = b then (out ++ vs, true) else ([], false)) → (∀ vs r, rowsM d (body.drop a) = some (vs, r) → valSz (out ++ vs) ≤ 1048576) → Ev (fun k => impl_DecodeRow.l0 k l b body (a : Int) out n (i : Int)) R := by
        intro d
        induction d with
        | zero =>
          intro i a out hi ho ha R hR hz
          have hz0 := hz [] _ rfl
          simp only [rowsM, List.append_nil] at hR hz0
          refine Ev.step (fun k => by rw [impl_DecodeRow.l0]) (ev_neg (by omega) ?_)
          refine Ev.bind (impl_EncodeRow_ev l out hll (by omega) (by omega)) ?_
          have encb : ∀ x ∈ encM l out, 0 ≤ x ∧ x ≤ 255 := by
            unfold encM
            split
            · exact app_bytes (rowB_bytes out) (sum4_bytes _)
            · intro x hx; cases hx
          refine ev_ite (fun g => ?_) (fun g => ?_)
          · have : encM l out = [] := List.length_eq_zero_iff.1 (by omega)
            rw [if_neg (fun h => h.1 this)] at hR
            exact ev_some hR.symm
          · have g' : encM l out ≠ [] := fun h => g (by rw [h]; rfl)
            refine ev_ite (fun e => ?_) (fun e => ?_)
            · rw [if_pos ⟨g', (strOf_eq encb hb).1 e⟩] at hR; exact ev_some hR.symm
            · rw [if_neg (fun h => e ((strOf_eq encb hb).2 h.2))] at hR; exact ev_some hR.symm
        | succ d ih =>
          intro i a out hi ho ha R hR hz
          obtain ⟨t, ht, hres⟩ := impl_valueAt_ev body a (by omega) ha hbb
          refine Ev.step (fun k => by rw [impl_DecodeRow.l0]) (ev_pos (by omega) (Ev.bind ht ?_))
          rw [rowsM] at hR
          have hz' : ∀ vs r, (match valueM (body.drop a) with
            | none => none
            | some (k, x, s, c) => match rowsM d ((body.drop a).drop c) with
              | none => none
              | some (vs, r2) => some ((⟨k, x, s⟩ : S116) :: vs, r2)) = some (vs, r) → valSz (out ++ vs) ≤ 1048576 := fun vs r h => hz vs r (by rw [rowsM]; exact h)
          cases hv : valueM (body.drop a) with
          | none =>
            rw [hv] at hres hR
            exact ev_neg (by rw [show t.2.2.2.2 = false from hres]; simp) (ev_some hR.symm)
          | some q =>
            obtain ⟨k0, x0, s0, c0⟩ := q
            rw [hv] at hres hR hz'
            have ht2 : t = (k0, x0, s0, ((a + c0 : Nat) : Int), true) := hres
            have hbd : ∀ x ∈ body.drop a, 0 ≤ x ∧ x ≤ 255 := fun x hx => hbb x (List.mem_of_mem_drop hx)
            have vl := (valueM_exact hbd hv).1
            rw [List.length_drop] at vl
            rw [ht2]
            refine ev_pos rfl (ev_pos (by omega) ?_)
            rw [wrap_succ (by omega)]
            simp only [List.drop_drop] at hR hz'
            refine ih (i + 1) (a + c0) (out ++ [⟨k0, x0, s0⟩]) (by omega) (by rw [List.length_append, List.length_singleton, ho]) (by omega) R ?_ ?_
            · rw [hR]
              cases rowsM d (body.drop (a + c0)) with
              | none => rfl
              | some w => obtain ⟨vs, r⟩ := w; simp only [List.append_assoc, List.cons_append, List.nil_append]
            · intro vs r hw
              rw [hw] at hz'
              have := hz' _ _ rfl
              rwa [List.append_assoc]
      have cN : n = ((n.toNat : Nat) : Int) := by omega
      refine loop n.toNat 0 c [] (by omega) rfl cl _ ?_ ?_
      · cases hr : rowsM n.toNat (body.drop c) with
        | none => rfl
        | some w =>
          obtain ⟨vs, r⟩ := w
          have ea := enc_again l b body n c vs r hbb hB hgu hr
          simp only [rowEnd, List.nil_append]
          by_cases e : r = [] ∧ rowOkM l vs = true
          · rw [if_pos e, if_pos (ea.2 e)]
          · rw [if_neg e, if_neg (fun h => e (ea.1 h))]
      · intro vs r hr
        have ⟨_, _, h3⟩ := rowsM_exact _ _ (fun x hx => hbb x (List.mem_of_mem_drop hx)) _ _ hr
        rw [List.length_drop] at h3
        rw [List.nil_append]
        omega
theorem spec_Crc_ev (l : List Int) (hs : l.length ≤ 281474976710656) (hb : ∀ b ∈ l, 0 ≤ b ∧ b ≤ 255) : Ev (fun k => spec_Crc.f k l) (crcM l) := by
  unfold spec_Crc.f
  have h := ev_listI0 (fun k (x : Nat) i => spec_Crc.l0 k l (x : Int) i) l (fun x _ => x < 2 ^ 32) (fun x _ r => ((crcFold x r ^^^ 4294967295 : Nat) : Int)) 4294967295 (by decide) ?_ ?_
  · exact h
  · intro x hI
    refine Ev.step (fun k => by rw [spec_Crc.l0]) ?_
    refine ev_neg (by omega) (ev_some ?_)
    exact xor_i64 x 4294967295 hI (by decide)
  · intro x i b r hI hi hx hd ih
    have hbb := hb b (List.mem_of_getElem? hx)
    refine Ev.step (fun k => by rw [spec_Crc.l0]) ?_
    refine ev_pos (by omega) (ev_pos (by omega) ?_)
    rw [show rd l (i : Int) = b from getD_at hx, wrap_id (by omega) (by omega)]
    obtain ⟨c, rfl⟩ := Int.eq_ofNat_of_zero_le hbb.1
    rw [xor_i64 x c hI (by omega)]
    refine ev_eight (fun k (y : Nat) j => spec_Crc.l1 k l (y : Int) (i : Int) j) _ ?_ (x ^^^ c) (Nat.xor_lt_two_pow hI (by omega)) ?_
    · intro y j hy hj ih2
      refine Ev.step (fun k => by rw [spec_Crc.l1]) ?_
      refine ev_pos (by omega) ?_
      rw [and1_i64 y hy, wrap_succ (by omega)]
      unfold crcStep at ih2
      refine ev_ite (fun h => ?_) (fun h => ?_)
      · rw [if_pos (by omega)] at ih2
        rw [show ((y : Int) / 2) = ((y / 2 : Nat) : Int) by omega, show ((2197175160 : Int)) = ((2197175160 : Nat) : Int) from rfl, xor_i64 (y / 2) 2197175160 (by omega) (by decide)]
        exact ih2
      · rw [if_neg (by omega)] at ih2
        rw [show ((y : Int) / 2) = ((y / 2 : Nat) : Int) by omega]
        exact ih2
    · refine Ev.step (fun k => by rw [spec_Crc.l1]) ?_
      refine ev_neg (by omega) ?_
      rw [wrap_succ (by omega)]
      exact ih (crcByte x c) (crcByte_lt hI hbb.2)
theorem spec_GetSum_ev (b : List Int) (hl : b.length ≤ 1000000000) (hb : ∀ x ∈ b, 0 ≤ x ∧ x ≤ 255) : Ev (fun k => spec_GetSum.f k b) (getSumM b) := by
  unfold spec_GetSum.f getSumM
  rw [wrap_id (by omega) (by omega)]
  refine ev_ite (fun g => ?_) (fun g => ?_)
  · rw [if_pos (by omega)]; exact ev_some (by rfl)
  · rw [if_neg (by omega)]
    have hbt : ∀ x ∈ b.take (b.length - 4), 0 ≤ x ∧ x ≤ 255 := fun x hx => hb x (List.mem_of_mem_take hx)
    have hbd : ∀ x ∈ b.drop (b.length - 4), 0 ≤ x ∧ x ≤ 255 := fun x hx => hb x (List.mem_of_mem_drop hx)
    have l4 : (b.drop (b.length - 4)).length = 4 := by rw [List.length_drop]; omega
    have e0 : (b.length : Int) - 4 = ((b.length - 4 : Nat) : Int) := by omega
    have h := ev_foldB (fun k v i => spec_GetSum.l0 k b ((b.length : Int) - 4) v ((b.length : Int) - 4 + i)) (b.drop (b.length - 4)) (by omega) (fun x => x) hbd
      (fun v => if v = crcM (b.take (b.length - 4)) then (b.take (b.length - 4), true) else (([] : List Int), false)) ?_ ?_
    · rw [List.map_id'', Int.add_zero] at h
      refine ev_eq h ?_
      have hc := crcM_bd (b.take (b.length - 4)) (fun x hx => (hbt x hx).2)
      by_cases c : b.drop (b.length - 4) = sum4 (crcM (b.take (b.length - 4)))
      · rw [if_pos c, c, fold_sum4 _ hc.1 hc.2, if_pos rfl]
      · rw [if_neg c, if_neg]
        intro h2
        exact c (by rw [← h2, sum4_fold l4 hbd])
      · intro x; rfl
    · intro v
      rw [l4]
      refine Ev.step (fun k => by rw [spec_GetSum.l0]) (ev_neg (by omega) (ev_pos (by omega) (ev_pos (by omega) ?_)))
      rw [show ((b.length : Int) - 4).toNat = b.length - 4 by omega]
      refine Ev.bind (spec_Crc_ev _ (by rw [List.length_take]; omega) hbt) ?_
      refine ev_ite (fun h => ?_) (fun h => ?_)
      · rw [if_pos h]
        exact Ev.bind (ev_c rfl) (Ev.bind (ev_c rfl) (ev_pos (by simp; omega) (ev_some (by rw [List.nil_append]))))
      · rw [if_neg h]; exact ev_some (by rfl)
    · intro v i x r h0 h1 hi hx ih
      rw [List.getElem?_drop] at hx
      have bx := hb x (List.mem_of_getElem? hx)
      have ei : (b.length : Int) - 4 + (i : Int) = ((b.length - 4 + i : Nat) : Int) := by omega
      refine Ev.step (fun k => by rw [spec_GetSum.l0]) ?_
      rw [ei, rd_at hx, wrap_succ (by omega), wrap_id (x := x) (by omega) (by omega), wrap_id (x := v * 256) (by omega) (by omega), or_byte v x h0 (by omega) bx.1 (by omega)]
      refine ev_pos (by omega) (ev_pos (by omega) ?_)
      rw [show ((b.length - 4 + i + 1 : Nat) : Int) = (b.length : Int) - 4 + ((i + 1 : Nat) : Int) by omega]
      exact ih
theorem spec_GetU_round (b : List Int) (at_ : Nat) (hl : b.length ≤ 1000000000) (ha : at_ ≤ 1000000000) (hb : ∀ x ∈ b, 0 ≤ x ∧ x ≤ 255) : ∀ (d i : Nat) (v : Int), i + d = 3 → 0 ≤ v → v < 128 ^ i → Ev (fun k => spec_GetU.l0 k b (at_ : Int) v (i : Int)) (tripU at_ (getUR d i v (b.drop (at_ + i)))) := by
  intro d
  induction d with
  | zero =>
    intro i v hi h0 h1
    refine Ev.step (fun k => by rw [spec_GetU.l0]) (ev_neg (by omega) (Ev.step (fun k => by rw [spec_GetU.j1]) (ev_neg (by simp) (ev_some (by rfl)))))
  | succ d ih =>
    intro i v hi h0 h1
    have H1 := Aside0.mk h1
    clear h1
    have w1 : wrap64 ((at_ : Int) + i) = ((at_ + i : Nat) : Int) := by rw [wrap_id (by omega) (by omega)]; omega
    refine Ev.step (fun k => by rw [spec_GetU.l0]) (ev_pos (by omega) (ev_pos (by omega) ?_))
    rw [w1]
    by_cases c : at_ + i < b.length
    · refine ev_pos (by omega) (Ev.step (fun k => by rw [spec_GetU.j1]) (ev_pos (by rw [decide_eq_true]; omega) ?_))
      rw [w1]
      have hx : b[at_ + i]? = some b[at_ + i] := List.getElem?_eq_getElem c
      have hd := List.drop_eq_getElem_cons c
      have hx0 := hb _ (List.getElem_mem c)
      generalize b[at_ + i] = x at hx hd hx0
      rw [hd, rd_at hx, wrap_id (x := x) (by omega) (by omega)]
      have w2 : IntKind.u64.wrap (wrap64 (7 * (i : Int))) = 7 * (i : Int) := by rw [wrap_id (by omega) (by omega), IntKind.wrap_u64]; omega
      have w3 : wrap64 ((i : Int) + 1) = ((i + 1 : Nat) : Int) := wrap_succ (by omega)
      have w4 : wrap64 (((at_ + i : Nat) : Int) + 1) = ((at_ + (i + 1) : Nat) : Int) := by rw [wrap_id (by omega) (by omega)]; omega
      rw [w2, w3, w4, and127 x (by omega) (by omega), shl_at (x % 128) i (by omega) (by omega) (by omega), or_grp i (by omega) (x % 128) v (by omega) (by omega) h0 H1.out]
      have f1 : (0 : Int) ≤ ((at_ + i : Nat) : Int) := by omega
      have f2 : ((at_ + i : Nat) : Int) < (b.length : Int) := by omega
      have f3 : (0 : Int) ≤ 7 * (i : Int) := by omega
      have em : x > 127 → x % 128 = x - 128 := fun _ => by omega
      have el : ¬ x > 127 → x % 128 = x := fun _ => by omega
      have hi0 : (i : Int) > 0 ↔ i > 0 := by omega
      have g7 : x ≥ 128 ↔ x > 127 := by omega
      have i3 : i + 1 + d = 3 := by omega
      have BD := Aside0.mk (grp_bd i (by omega) (x % 128) v (by omega) (by omega) h0 H1.out)
      refine ev_pos f1 (ev_pos f2 (ev_pos f3 ?_))
      refine ev_ite (fun g => ?_) (fun g => ?_)
      · rw [getUR, if_pos g]
        rw [em g] at BD ⊢
        have := ih (i + 1) (v + (x - 128) * 128 ^ i) i3 BD.out.1 BD.out.2.1
        rwa [← Nat.add_assoc] at this
      · rw [getUR, if_neg g]
        rw [el g]
        refine ev_ite (fun g2 => ?_) (fun g2 => ?_)
        · refine ev_ite (fun g3 => ?_) (fun g3 => ?_)
          · rw [if_pos ⟨g3, hi0.1 g2⟩]; exact ev_some (by rfl)
          · rw [if_neg (show ¬ (x = 0 ∧ i > 0) from fun h => g3 h.1)]
            refine ev_ite (fun g4 => ?_) (fun g4 => ?_)
            · rw [if_pos (show v + x * 128 ^ i > 1000000 from g4)]; exact ev_some (by rfl)
            · rw [if_neg (show ¬ v + x * 128 ^ i > 1000000 from g4)]; exact ev_some (by rfl)
        · rw [if_neg (show ¬ (x = 0 ∧ i > 0) from fun h => g2 (hi0.2 h.2))]
          refine ev_ite (fun g4 => ?_) (fun g4 => ?_)
          · rw [if_pos (show v + x * 128 ^ i > 1000000 from g4)]; exact ev_some (by rfl)
          · rw [if_neg (show ¬ v + x * 128 ^ i > 1000000 from g4)]; exact ev_some (by rfl)
    · have hd : b.drop (at_ + i) = [] := List.drop_eq_nil_of_le (by omega)
      rw [hd, getUR]
      refine ev_ite (fun _ => ?_) (fun _ => ?_)
      · exact Ev.step (fun k => by rw [spec_GetU.j1]) (ev_neg (by rw [decide_eq_true_iff]; omega) (ev_some (by rfl)))
      · exact Ev.step (fun k => by rw [spec_GetU.j1]) (ev_neg (by simp) (ev_some (by rfl)))
theorem spec_GetU_ev (b : List Int) (at_ : Nat) (hl : b.length ≤ 1000000000) (ha : at_ ≤ 1000000000) (hb : ∀ x ∈ b, 0 ≤ x ∧ x ≤ 255) : Ev (fun k => spec_GetU.f k b (at_ : Int)) (tripU at_ (getUM (b.drop at_))) := by
  unfold spec_GetU.f
  exact spec_GetU_round b at_ hl ha hb 3 0 0 (by omega) (by omega) (by simp)
theorem spec_GetText_ev (b : List Int) (at_ : Nat) (hl : b.length ≤ 1000000000) (ha : at_ ≤ b.length) (hb : ∀ x ∈ b, 0 ≤ x ∧ x ≤ 255) : Ev (fun k => spec_GetText.f k b (at_ : Int)) (tripT at_ (getTextM (b.drop at_))) := by
  have hbd : ∀ x ∈ b.drop at_, 0 ≤ x ∧ x ≤ 255 := fun x hx => hb x (List.mem_of_mem_drop hx)
  have hu := spec_GetU_ev b at_ hl (by omega) hb
  unfold spec_GetText.f getTextM
  cases hg : getUM (b.drop at_) with
  | none =>
    rw [hg] at hu
    have hu2 : Ev (fun k => spec_GetU.f k b (at_ : Int)) ((0, 0, false) : Int × Int × Bool) := hu
    exact Ev.bind hu2 (ev_neg (by simp) (ev_some (by rfl)))
  | some p =>
    obtain ⟨n, c⟩ := p
    have ⟨n0, n1, cl, c1, _, _⟩ := getUM_exact hbd hg
    rw [List.length_drop] at cl
    rw [hg] at hu
    have hu2 : Ev (fun k => spec_GetU.f k b (at_ : Int)) ((n, ((at_ + c : Nat) : Int), true) : Int × Int × Bool) := hu
    refine Ev.bind hu2 (ev_pos rfl ?_)
    dsimp only
    rw [wrap_id (x := (b.length : Int) - ((at_ + c : Nat) : Int)) (by omega) (by omega), wrap_id (x := ((at_ + c : Nat) : Int) + n) (by omega) (by omega), List.length_drop]
    refine ev_ite (fun g => ?_) (fun g => ?_)
    · rw [if_pos (show n > ((b.length - at_ : Nat) : Int) - c by omega)]; exact ev_some (by rfl)
    · rw [if_neg (show ¬ n > ((b.length - at_ : Nat) : Int) - c by omega)]
      refine ev_pos (by omega) (ev_pos (by omega) (ev_pos (by omega) (ev_some ?_)))
      have e : (((at_ + c : Nat) : Int) + n).toNat = at_ + c + n.toNat := by omega
      rw [e, Int.toNat_natCast, List.drop_take, List.drop_drop]
      simp only [tripT]
      rw [show at_ + c + n.toNat - (at_ + c) = n.toNat by omega, show ((at_ + (c + n.toNat) : Nat) : Int) = ((at_ + c : Nat) : Int) + n by omega]
theorem spec_l4Bytes_loop : ∀ (d : Nat) (x : Int) (s : List Int), x < 256 ^ d → s.length + d ≤ 100 → Ev (fun k => spec_l4Bytes.l0 k x s) (beM d x ++ s) := by
  intro d
  induction d with
  | zero =>
    intro x s hx _
    have hx0 : ¬ x > 0 := by rw [Int.pow_zero] at hx; omega
    refine Ev.step (fun k => by rw [spec_l4Bytes.l0]) ?_
    exact ev_neg hx0 (ev_some rfl)
  | succ d ih =>
    intro x s hx hs
    refine Ev.step (fun k => by rw [spec_l4Bytes.l0]) ?_
    rw [beM]
    refine ev_ite (fun h => ?_) (fun h => by rw [if_neg h]; exact ev_some rfl)
    rw [if_pos h]
    refine Ev.bind (ev_c rfl) (ev_pos (by simp; omega) ?_)
    refine ev_eq (ih (x / 256) ([x % 256] ++ s) ?_ (by simp; omega)) (by simp)
    rw [Int.pow_succ] at hx
    exact Int.ediv_lt_of_lt_mul (by omega) hx
theorem spec_l4Bytes_ev (x : Int) (hx : x ≤ 1000000000000000) : Ev (fun k => spec_l4Bytes.f k x) (beM 7 x) := by
  unfold spec_l4Bytes.f
  exact ev_eq (spec_l4Bytes_loop 7 x [] (by omega) (by simp)) (by simp)
theorem spec_Flip_ev (l : List Int) (hs : l.length ≤ 1000) (hb : ∀ b ∈ l, 0 ≤ b ∧ b ≤ 255) : Ev (fun k => spec_Flip.f k l 0) (l.map fun b => 255 - b) := by
  unfold spec_Flip.f
  refine Ev.bind (ev_c rfl) (ev_pos (by simp; omega) ?_)
  rw [List.nil_append]
  have h := ev_listI0 (fun k (s : List Int) i => spec_Flip.l0 k 0 s i) l (fun s i => s.length = l.length ∧ s.drop i = l.drop i) (fun s i r => s.take i ++ r.map fun b => 255 - b) l (by simp) ?_ ?_
  · simpa using h
  · intro s ⟨hl, _⟩
    refine Ev.step (fun k => by rw [spec_Flip.l0]) ?_
    refine ev_neg (by omega) (ev_some ?_)
    rw [← hl, List.take_length]
    simp
  · intro s i x r ⟨hl, hd0⟩ hi hx hd ih
    have hx2 : s[i]? = some x := by
      have : (s.drop i)[0]? = (l.drop i)[0]? := by rw [hd0]
      rw [List.getElem?_drop, List.getElem?_drop] at this
      rw [Nat.add_zero] at this
      rw [this]; exact hx
    have bx := hb x (List.mem_of_getElem? hx)
    refine Ev.step (fun k => by rw [spec_Flip.l0]) ?_
    refine ev_pos (by omega) (ev_pos (by omega) (ev_pos (by omega) ?_))
    rw [wrap_succ (by omega), rd_at hx2, Int.toNat_natCast, flip_l x bx.1 bx.2]
    refine ev_eq (ih (s.set i (255 - x)) ⟨by simpa using hl, ?_⟩) ?_
    · rw [List.drop_set_of_lt (by omega)]
      have e : (s.drop i).tail = (l.drop i).tail := by rw [hd0]
      rwa [List.tail_drop, List.tail_drop] at e
    · rw [List.take_add_one, List.take_set_of_le (Nat.le_refl i), List.getElem?_set_self (by omega)]
      simp
theorem spec_PutVar_j1 (l : List Int) (c : Int) (hs : l.length < 140737488355300) (h0 : -1000000000000000 ≤ c) (h1 : c ≤ 1000000000000000) : Ev (fun k => spec_PutVar.j1 k l c) (l ++ (if c ≥ 0 then (128 + ((beM 7 c).length : Int)) :: beM 7 c else (127 - ((beM 7 (-1 - c)).length : Int)) :: (beM 7 (-1 - c)).map (fun b => 255 - b))) := by
  have n1 := beM_len 7 c
  have n2 := beM_len 7 (-1 - c)
  refine Ev.step (fun k => by rw [spec_PutVar.j1]) ?_
  refine ev_ite (fun h => ?_) (fun h => ?_)
  · rw [if_pos h]
    refine Ev.bind (spec_l4Bytes_ev c h1) (Ev.bind (ev_c rfl) (ev_pos (by simp; omega) (Ev.bind (ev_c rfl) (ev_pos (by simp; omega) (Ev.bind (ev_c rfl) (ev_pos (by simp; omega) (ev_some ?_)))))))
    rw [wrap_id (by omega) (by omega), show (128 + ((beM 7 c).length : Int)) % 256 = 128 + ((beM 7 c).length : Int) by omega]
    simp
  · rw [if_neg h, wrap_id (x := -1 - c) (by omega) (by omega)]
    refine Ev.bind (spec_l4Bytes_ev _ (by omega)) (Ev.bind (ev_c rfl) (ev_pos (by simp; omega) (Ev.bind (ev_c rfl) (ev_pos (by simp; omega) (Ev.bind (ev_c rfl) (Ev.bind (spec_Flip_ev _ (by omega) (beM_bytes 7 _)) (ev_pos (by simp; omega) (ev_some ?_))))))))
    rw [wrap_id (by omega) (by omega), show (127 - ((beM 7 (-1 - c)).length : Int)) % 256 = 127 - ((beM 7 (-1 - c)).length : Int) by omega]
    simp
theorem spec_PutVar_ev (l : List Int) (n : Int) (hs : l.length < 140737488355300) : Ev (fun k => spec_PutVar.f k l n) (l ++ varM n) := by
  have hb := clampV_bd n
  have h := spec_PutVar_j1 l (clampV n) hs hb.1 hb.2
  unfold spec_PutVar.f varM
  refine ev_ite (fun c => ?_) (fun c => ?_)
  · have e : clampV n = 1000000000000000 := by unfold clampV; rw [if_pos c]
    rw [e] at h ⊢
    exact Ev.step (fun k => by rw [spec_PutVar.j0]) (ev_neg (by omega) h)
  · refine Ev.step (fun k => by rw [spec_PutVar.j0]) (ev_ite (fun c2 => ?_) (fun c2 => ?_))
    · have e : clampV n = -1000000000000000 := by unfold clampV; rw [if_neg c, if_pos c2]
      rw [e] at h ⊢
      exact h
    · have e : clampV n = n := by unfold clampV; rw [if_neg c, if_neg c2]
      rw [e] at h ⊢
      exact h
theorem spec_l4Read_ev (b : List Int) (a : Nat) (n : Int) (f : Bool) (hl : b.length ≤ 1000000000) (ha : a ≤ b.length) (h0 : 0 ≤ n) (h1 : n ≤ 7) (hb : ∀ x ∈ b, 0 ≤ x ∧ x ≤ 255) : Ev (fun k => spec_l4Read.f k b (a : Int) n f) (readN (b.drop a) n f) := by
  unfold spec_l4Read.f readN
  rw [List.length_drop]
  refine ev_neg (by omega) (ev_neg (by omega) ?_)
  rw [wrap_id (x := (b.length : Int) - a) (by omega) (by omega)]
  refine Ev.step (fun k => by rw [spec_l4Read.j0]) ?_
  by_cases c : n > (b.length : Int) - a
  · rw [if_pos (by omega)]
    exact ev_pos (decide_eq_true c) (ev_some (by rfl))
  · rw [if_neg (by omega)]
    refine ev_neg (by rw [decide_eq_true_iff]; exact c) ?_
    have lt : ((b.drop a).take n.toNat).length = n.toNat := by rw [List.length_take, List.length_drop]; omega
    have hbt : ∀ x ∈ (b.drop a).take n.toNat, 0 ≤ x ∧ x ≤ 255 := fun x hx => hb x (List.mem_of_mem_drop (List.mem_of_mem_take hx))
    have e : flipIf f ((b.drop a).take n.toNat) = ((b.drop a).take n.toNat).map (fun x => if f = true then 255 - x else x) := by
      unfold flipIf
      cases f <;> simp
    rw [e]
    refine ev_foldB (fun k v i => spec_l4Read.l0 k b (a : Int) n f v i) ((b.drop a).take n.toNat) (by omega) (fun x => if f = true then 255 - x else x) (fun x hx => by have := hbt x hx; split <;> omega) (fun v => (v, true)) ?_ ?_
    · intro v
      exact Ev.step (fun k => by rw [spec_l4Read.l0]) (ev_neg (by omega) (ev_some (by rfl)))
    · intro v i x r g0 g1 hi hx ih
      have bx := hbt x (List.mem_of_getElem? hx)
      have hx2 : b[a + i]? = some x := by
        rw [List.getElem?_take_of_lt (by omega), List.getElem?_drop] at hx
        exact hx
      have hlt : a + i < b.length := by
        rw [lt] at hi; omega
      refine Ev.step (fun k => by rw [spec_l4Read.l0]) ?_
      have w1 : wrap64 ((a : Int) + i) = ((a + i : Nat) : Int) := by rw [wrap_id (by omega) (by omega)]; omega
      rw [w1, wrap_succ (by omega), rd_at hx2, wrap_id (x := x) (by omega) (by omega), wrap_id (x := v * 256) (by omega) (by omega), flip_l x bx.1 bx.2, wrap_id (x := 255 - x) (by omega) (by omega), or_byte v x g0 (by omega) bx.1 (by omega), or_byte v (255 - x) g0 (by omega) (by omega) (by omega)]
      refine ev_pos (by omega) (ev_pos (by omega) (ev_pos (by omega) ?_))
      refine ev_ite (fun h => ?_) (fun h => ?_)
      · simp only [if_pos h] at ih; exact ih
      · simp only [if_neg h] at ih; exact ih
theorem varM_at (v : Int) (f : Bool) (hv : 0 ≤ v) (h0 : -1000000000000000 ≤ negIf f v) (h1 : negIf f v ≤ 1000000000000000) : (varM (negIf f v)).length = 1 + (beM 7 v).length := by
  unfold varM
  rw [show clampV (negIf f v) = negIf f v by unfold clampV; rw [if_neg (by omega), if_neg (by omega)]]
  cases f
  · have e : negIf false v = v := rfl
    rw [e, if_pos hv, List.length_cons, Nat.add_comm]
  · have e : negIf true v = -1 - v := rfl
    rw [e, if_neg (by omega), List.length_cons, List.length_map, show -1 - (-1 - v) = v by omega, Nat.add_comm]
theorem spec_GetVar_ev (b : List Int) (a : Nat) (hl : b.length ≤ 1000000000) (ha : a ≤ b.length) (hb : ∀ x ∈ b, 0 ≤ x ∧ x ≤ 255) : Ev (fun k => spec_GetVar.f k b (a : Int)) (tripU a (getVarM (b.drop a))) := by
  unfold spec_GetVar.f
  refine ev_neg (by omega) ?_
  by_cases c : a < b.length
  · refine ev_neg (by omega) (ev_pos (by omega) (ev_pos (by omega) ?_))
    have hx : b[a]? = some b[a] := List.getElem?_eq_getElem c
    have hd := List.drop_eq_getElem_cons c
    have hx0 := hb _ (List.getElem_mem c)
    generalize b[a] = x at hx hd hx0
    rw [hd, rd_at hx, wrap_id (x := x) (by omega) (by omega)]
    refine Ev.bind (ev_c (spec_l1In_eq _ _ _)) (Ev.step (fun k => by rw [spec_GetVar.j0]) ?_)
    rw [rd_at hx, wrap_id (x := x) (by omega) (by omega), wrap_id (x := x - 128) (by omega) (by omega)]
    by_cases g : inB x 120 135 = true
    · have gx := inB_iff.1 g
      refine ev_neg (by rw [g]; simp) (ev_pos (by omega) (ev_pos (by omega) ?_))
      have key : ∀ n : Int, n = lenOf x → Ev (fun k => spec_GetVar.j1 k b (a : Int) n (decide (x - 128 < 0))) (tripU a (getVarM (x :: b.drop (a + 1)))) := by
        intro n hn
        have hn0 : 0 ≤ n ∧ n ≤ 7 := by rw [hn]; unfold lenOf; split <;> omega
        have ed : decide (x - 128 < 0) = decide (x < 128) := by rw [decide_eq_decide]; omega
        refine Ev.step (fun k => by rw [spec_GetVar.j1]) ?_
        rw [show wrap64 ((a : Int) + 1) = ((a + 1 : Nat) : Int) from wrap_succ (by omega), ed]
        refine Ev.bind (spec_l4Read_ev b (a + 1) n _ hl (by omega) hn0.1 hn0.2 hb) ?_
        have hbt : ∀ y ∈ (b.drop (a + 1)).take n.toNat, 0 ≤ y ∧ y ≤ 255 := fun y hy => hb y (List.mem_of_mem_drop (List.mem_of_mem_take hy))
        simp only [getVarM, if_pos g]
        rw [← hn]
        unfold readN
        by_cases t : ((b.drop (a + 1)).length : Int) < n
        · rw [if_pos t, if_pos t]
          refine ev_ite (fun _ => ?_) (fun _ => ?_)
          · exact Ev.step (fun k => by rw [spec_GetVar.j2]) (ev_neg (by simp) (ev_some (by rfl)))
          · exact Ev.step (fun k => by rw [spec_GetVar.j2]) (ev_neg (by simp) (ev_some (by rfl)))
        · rw [if_neg t, if_neg t]
          have bd := foldB_bd _ (flipIf_bytes (decide (x < 128)) hbt)
          rw [flipIf_len, List.length_take] at bd
          have vb : foldB 0 (flipIf (decide (x < 128)) ((b.drop (a + 1)).take n.toNat)) < 256 ^ 7 := Int.lt_of_lt_of_le bd.2 (pow256_7 _ (by omega))
          generalize foldB 0 (flipIf (decide (x < 128)) ((b.drop (a + 1)).take n.toNat)) = v at bd vb
          have end_ : ∀ w : Int, w = negIf (decide (x < 128)) v → Ev (fun k => spec_GetVar.j2 k (a : Int) n w true) (tripU a (if ((beM 7 v).length : Int) = n then (if inB (negIf (decide (x < 128)) v) (-1000000000000000) 1000000000000000 = true then some (negIf (decide (x < 128)) v, 1 + n.toNat) else none) else none)) := by
            intro w hw
            rw [← hw]
            refine Ev.step (fun k => by rw [spec_GetVar.j2]) (ev_pos rfl (Ev.bind (ev_c (spec_l1In_eq _ _ _)) ?_))
            refine ev_ite (fun i1 => ?_) (fun i1 => ?_)
            · have i2 := inB_iff.1 i1
              refine Ev.bind (spec_PutVar_ev [] w (by simp)) ?_
              rw [List.nil_append, wrap_id (x := n + 1) (by omega) (by omega), if_pos i1]
              have e5 : (varM w).length = 1 + (beM 7 v).length := by rw [hw]; exact varM_at v _ bd.1 (by rw [← hw]; exact i2.1) (by rw [← hw]; exact i2.2)
              refine ev_ite (fun i3 => ?_) (fun i3 => ?_)
              · rw [if_pos (by omega)]
                refine ev_some ?_
                rw [show wrap64 ((a : Int) + 1) = ((a + 1 : Nat) : Int) from wrap_succ (by omega), wrap_id (by omega) (by omega)]
                simp only [tripU]
                congr 2
                omega
              · rw [if_neg (by omega)]; exact ev_some (by rfl)
            · rw [if_neg i1]
              refine ev_some ?_
              split <;> rfl
          refine ev_ite (fun i => ?_) (fun i => ?_)
          · refine end_ _ ?_
            rw [wrap_id (by omega) (by omega)]; unfold negIf; rw [if_pos i]
          · refine end_ _ ?_
            unfold negIf; rw [if_neg i]
      refine ev_ite (fun h => ?_) (fun h => ?_)
      · rw [wrap_id (by omega) (by omega)]
        refine key _ ?_
        unfold lenOf; rw [if_pos (by omega)]; omega
      · refine key _ ?_
        unfold lenOf; rw [if_neg (by omega)]
    · have g' : inB x 120 135 = false := by simpa using g
      refine ev_pos (by rw [g']; rfl) (ev_some ?_)
      simp only [getVarM, if_neg g]
      rfl
  · have hd : b.drop a = [] := List.drop_eq_nil_of_le (by omega)
    rw [hd]
    exact ev_pos (by omega) (Ev.step (fun k => by rw [spec_GetVar.j0]) (ev_pos rfl (ev_some (by rfl))))
theorem spec_l7Val_ev (b : List Int) (a : Nat) (hl : b.length ≤ 1000000000) (ha : a ≤ b.length) (hb : ∀ x ∈ b, 0 ≤ x ∧ x ≤ 255) : ∃ t, Ev (fun k => spec_l7Val.f k b (a : Int)) t ∧ valRes a (valueM (b.drop a)) t := by
  have hbd : ∀ x ∈ b.drop a, 0 ≤ x ∧ x ≤ 255 := fun x hx => hb x (List.mem_of_mem_drop hx)
  have hu := spec_GetU_ev b a hl (by omega) hb
  unfold spec_l7Val.f valueM
  cases hg : getUM (b.drop a) with
  | none =>
    rw [hg] at hu
    have hu2 : Ev (fun k => spec_GetU.f k b (a : Int)) ((0, 0, false) : Int × Int × Bool) := hu
    exact ⟨(0, 0, ⟨#[]⟩, 0, false), Ev.bind hu2 (ev_neg (by simp) (Ev.step (fun k => by rw [spec_l7Val.j0]) (ev_neg (by simp) (ev_neg (by simp) (ev_neg (by simp) (ev_neg (by simp) (ev_some (by rfl)))))))), rfl⟩
  | some p =>
    obtain ⟨n, c⟩ := p
    rw [hg] at hu
    have ⟨n0, n1, cl, c1, _, _⟩ := getUM_exact hbd hg
    rw [List.length_drop] at cl
    have red : ∀ t, (∀ cc : Bool, cc = decide (n = 1 ∨ n = 2) → Ev (fun k => spec_l7Val.j0 k b ((a + c : Nat) : Int) true true n cc n 0 (⟨#[]⟩ : ByteArray)) t) → Ev (fun k => (spec_GetU.f k b (a : Int)).bind fun bt401 => (if bt401.1 = 1 then (spec_l7Val.j0 k b bt401.2.1 bt401.2.2 true bt401.1 (bt401.1 == 1) bt401.1 0 (⟨#[]⟩ : ByteArray)) else (spec_l7Val.j0 k b bt401.2.1 bt401.2.2 true bt401.1 (bt401.1 == 2) bt401.1 0 (⟨#[]⟩ : ByteArray)))) t := by
      intro t h
      have hu2 : Ev (fun k => spec_GetU.f k b (a : Int)) ((n, ((a + c : Nat) : Int), true) : Int × Int × Bool) := hu
      refine Ev.bind hu2 ?_
      dsimp only
      refine ev_ite (fun g => h _ (by simp [g])) (fun g => h _ ?_)
      by_cases g2 : n = 2
      · simp [g2]
      · simp [g, g2]
    by_cases k12 : n = 1 ∨ n = 2
    · have hv := spec_GetVar_ev b (a + c) hl (by omega) hb
      rw [← List.drop_drop] at hv
      refine ⟨_, red _ (fun cc hcc => Ev.step (fun k => by rw [spec_l7Val.j0]) (ev_pos (by rw [hcc]; exact decide_eq_true k12) (Ev.bind hv (ev_pos rfl (ev_some (by rfl)))))), ?_⟩
      simp only [if_pos k12]
      cases hw : getVarM ((b.drop a).drop c) with
      | none => rfl
      | some q => obtain ⟨v, c2⟩ := q; simp only [tripU, valRes, Nat.add_assoc]
    · have hneg : ∀ cc : Bool, cc = decide (n = 1 ∨ n = 2) → ¬ cc = true := fun cc hcc => by rw [hcc, decide_eq_true_iff]; exact k12
      simp only [if_neg k12]
      by_cases k3 : n = 3
      · have hv := spec_GetText_ev b (a + c) hl (by omega) hb
        rw [← List.drop_drop] at hv
        refine ⟨_, red _ (fun cc hcc => Ev.step (fun k => by rw [spec_l7Val.j0]) (ev_neg (hneg cc hcc) (ev_pos k3 (Ev.bind hv (ev_pos rfl (ev_some (by rfl))))))), ?_⟩
        simp only [if_pos k3]
        cases hw : getTextM ((b.drop a).drop c) with
        | none => rfl
        | some q => obtain ⟨v, c2⟩ := q; simp only [tripT, valRes, Nat.add_assoc]
      · simp only [if_neg k3]
        by_cases k4 : n = 4
        · simp only [if_pos k4]
          by_cases lt : a + c < b.length
          · have hx : b[a + c]? = some b[a + c] := List.getElem?_eq_getElem lt
            have hd := List.drop_eq_getElem_cons lt
            have hx0 := hb _ (List.getElem_mem lt)
            generalize b[a + c] = x at hx hd hx0
            refine ⟨(n, x, ⟨#[]⟩, ((a + (c + 1) : Nat) : Int), true), red _ (fun cc hcc => Ev.step (fun k => by rw [spec_l7Val.j0]) (ev_neg (hneg cc hcc) (ev_neg k3 (ev_pos k4 (ev_pos (by omega) (ev_pos (by omega) (ev_pos rfl (ev_some ?_)))))))), ?_⟩
            · rw [rd_at hx, wrap_id (x := x) (by omega) (by omega), wrap_succ (by omega), Nat.add_assoc, decide_eq_true (by omega)]
            · rw [List.drop_drop, hd]; rfl
          · have hd : b.drop (a + c) = [] := List.drop_eq_nil_of_le (by omega)
            refine ⟨_, red _ (fun cc hcc => Ev.step (fun k => by rw [spec_l7Val.j0]) (ev_neg (hneg cc hcc) (ev_neg k3 (ev_pos k4 (ev_neg (by omega) (ev_pos rfl (ev_some (by rfl)))))))), ?_⟩
            rw [List.drop_drop, hd]
            exact decide_eq_false (by omega)
        · simp only [if_neg k4]
          exact ⟨(n, 0, ⟨#[]⟩, ((a + c : Nat) : Int), true), red _ (fun cc hcc => Ev.step (fun k => by rw [spec_l7Val.j0]) (ev_neg (hneg cc hcc) (ev_neg k3 (ev_neg k4 (ev_pos rfl (ev_some (by rfl))))))), rfl⟩
theorem planOk_le {l : List (S119)} {vs : List (S116)} (h : rowOkM l vs = true) : l.length ≤ 6 ∧ vs.length = l.length := by
  unfold rowOkM at h
  by_cases h1 : planOkM l = true
  · rw [if_pos h1] at h
    by_cases h2 : (vs.length : Int) = (l.length : Int)
    · unfold planOkM at h1
      by_cases h3 : l.all (fun p => partOkM p.f0 p.f1) = true
      · rw [if_pos h3] at h1
        have := of_decide_eq_true h1
        omega
      · rw [if_neg h3] at h1; cases h1
    · rw [if_neg h2] at h; cases h
  · rw [if_neg h1] at h; cases h
theorem spec_DecodeRow_ev (l : List (S119)) (b : List Int) (hll : l.length ≤ 1048576) (hl : b.length ≤ 1048576) (hb : ∀ x ∈ b, 0 ≤ x ∧ x ≤ 255) : Ev (fun k => spec_DecodeRow.f k l b) (decM l b) := by
  unfold spec_DecodeRow.f
  have hs := spec_GetSum_ev b (by omega) hb
  have hg := getSumM_of b
  have hd : decM l b = if (getSumM b).2 = true then (match getUM (getSumM b).1 with
    | none => ([], false)
    | some (n, c) => if n = l.length ∧ n ≤ 6 then rowEnd l (rowsM n.toNat ((getSumM b).1.drop c)) else ([], false))
    else ([], false) := rfl
  rw [hd]
  generalize getSumM b = G at hs hg
  obtain ⟨body, ok⟩ := G
  have hbb := hg.2.2.2 hb
  simp only at hg hbb ⊢
  refine Ev.bind hs ?_
  have hu := spec_GetU_ev body 0 (by omega) (by omega) hbb
  rw [List.drop_zero] at hu
  cases ok with
  | false =>
    rw [if_neg (by simp)]
    refine Ev.bind hu ?_
    exact Ev.step (fun k => by rw [spec_DecodeRow.l0]) (ev_neg (by simp) (Ev.step (fun k => by rw [spec_DecodeRow.j1]) (ev_neg (by simp) (ev_neg (by simp) (ev_some (by rfl))))))
  | true =>
    rw [if_pos rfl]
    cases hgu : getUM body with
    | none =>
      rw [hgu] at hu
      have hu2 : Ev (fun k => spec_GetU.f k body 0) ((0, 0, false) : Int × Int × Bool) := hu
      refine Ev.bind hu2 ?_
      exact Ev.step (fun k => by rw [spec_DecodeRow.l0]) (ev_pos rfl (ev_neg (by simp) (Ev.step (fun k => by rw [spec_DecodeRow.j1]) (ev_neg (by simp) (ev_pos rfl (ev_neg (by simp) (ev_some (by rfl))))))))
    | some p =>
      obtain ⟨n, c⟩ := p
      have ⟨n0, n1, cl, c1, _, _⟩ := getUM_exact hbb hgu
      rw [hgu] at hu
      have hu2 : Ev (fun k => spec_GetU.f k body 0) ((n, ((c : Nat) : Int), true) : Int × Int × Bool) := by rw [show (c : Nat) = 0 + c by omega]; exact hu
      refine Ev.bind hu2 ?_
      dsimp only
      have loop : ∀ (d i a : Nat) (out : List (S116)), i + d = min n.toNat 7 → out.length = i → a ≤ body.length → ∀ R, R = (match rowsM d (body.drop a) with
          | none => (([] : List (S116)), false)
          | some (vs, r) => if r = [] ∧ n = (out ++ vs).length ∧ rowOkM l (out ++ vs) = true then (out ++ vs, true) else ([], false)) → Ev (fun k => spec_DecodeRow.l0 k l body true n (a : Int) true out (i : Int)) R := by
        intro d
        induction d with
        | zero =>
          intro i a out hi ho ha R hR
          simp only [rowsM, List.append_nil] at hR
          have tail : Ev (fun k => spec_DecodeRow.j1 k l body true n (a : Int) true out (i : Int) false) R := by
            refine Ev.step (fun k => by rw [spec_DecodeRow.j1]) (ev_neg (by simp) (ev_pos rfl (ev_pos rfl ?_)))
            refine ev_ite (fun g => ?_) (fun g => ?_)
            · have e : body.drop a = [] := List.drop_eq_nil_of_le (by omega)
              rw [e] at hR
              refine ev_ite (fun g2 => ?_) (fun g2 => ?_)
              · refine Ev.bind (spec_RowOk_ev l out (by omega)) (ev_ite (fun g3 => ?_) (fun g3 => ?_))
                · rw [if_pos ⟨rfl, g2, g3⟩] at hR; exact ev_some hR.symm
                · rw [if_neg (fun h => g3 h.2.2)] at hR; exact ev_some hR.symm
              · rw [if_neg (fun h => g2 h.2.1)] at hR; exact ev_some hR.symm
            · rw [if_neg (fun h => by
                have := congrArg List.length h.1
                rw [List.length_drop, List.length_nil] at this
                omega)] at hR
              exact ev_some hR.symm
          refine Ev.step (fun k => by rw [spec_DecodeRow.l0]) (ev_pos rfl (ev_pos rfl ?_))
          refine ev_ite (fun g => ?_) (fun g => tail)
          rw [decide_eq_false (by omega)]
          exact tail
        | succ d ih =>
          intro i a out hi ho ha R hR
          obtain ⟨t, ht, hres⟩ := spec_l7Val_ev body a (by omega) ha hbb
          refine Ev.step (fun k => by rw [spec_DecodeRow.l0]) (ev_pos rfl (ev_pos rfl (ev_pos (by omega) ?_)))
          refine Ev.step (fun k => by rw [spec_DecodeRow.j1]) (ev_pos (decide_eq_true (by omega)) (Ev.bind ht ?_))
          rw [rowsM] at hR
          cases hv : valueM (body.drop a) with
          | none =>
            rw [hv] at hres hR
            exact ev_neg (by rw [show t.2.2.2.2 = false from hres]; simp) (ev_some hR.symm)
          | some q =>
            obtain ⟨k0, x0, s0, c0⟩ := q
            rw [hv] at hres hR
            have ht2 : t = (k0, x0, s0, ((a + c0 : Nat) : Int), true) := hres
            have hbd : ∀ x ∈ body.drop a, 0 ≤ x ∧ x ≤ 255 := fun x hx => hbb x (List.mem_of_mem_drop hx)
            have vl := (valueM_exact hbd hv).1
            rw [List.length_drop] at vl
            rw [ht2]
            refine ev_pos rfl (ev_pos (by omega) ?_)
            rw [wrap_succ (by omega)]
            simp only [List.drop_drop] at hR
            refine ih (i + 1) (a + c0) (out ++ [⟨k0, x0, s0⟩]) (by omega) (by rw [List.length_append, List.length_singleton, ho]) (by omega) R ?_
            rw [hR]
            cases rowsM d (body.drop (a + c0)) with
            | none => rfl
            | some w => obtain ⟨vs, r⟩ := w; simp only [List.append_assoc, List.cons_append, List.nil_append]
      refine loop (min n.toNat 7) 0 c [] (by omega) rfl cl _ ?_
      by_cases h6 : n ≤ 6
      · rw [show min n.toNat 7 = n.toNat by omega]
        by_cases hn : n = l.length
        · rw [if_pos ⟨hn, h6⟩]
          cases hr : rowsM n.toNat (body.drop c) with
          | none => rfl
          | some w =>
            obtain ⟨vs, r⟩ := w
            have hlen := (rowsM_exact _ _ (fun x hx => hbb x (List.mem_of_mem_drop hx)) _ _ hr).1
            simp only [rowEnd, List.nil_append]
            by_cases e : r = [] ∧ rowOkM l vs = true
            · rw [if_pos e, if_pos ⟨e.1, by omega, e.2⟩]
            · rw [if_neg e, if_neg (fun h => e ⟨h.1, h.2.2⟩)]
        · rw [if_neg (fun h => hn h.1)]
          cases hr : rowsM n.toNat (body.drop c) with
          | none => rfl
          | some w =>
            obtain ⟨vs, r⟩ := w
            simp only [List.nil_append]
            rw [if_neg]
            rintro ⟨_, h2, h3⟩
            have := planOk_le h3
            omega
      · rw [if_neg (fun h => h6 h.2)]
        cases hr : rowsM (min n.toNat 7) (body.drop c) with
        | none => rfl
        | some w =>
          obtain ⟨vs, r⟩ := w
          simp only [List.nil_append]
          rw [if_neg]
          rintro ⟨_, h2, h3⟩
          have := planOk_le h3
          omega
theorem spec_PutU_loop (s : List Int) (n : Int) (hs : s.length < 140737488355317) (h0 : 0 ≤ n) (h1 : n ≤ 1000000) : Ev (fun k => spec_PutU.l0 k n s) (s ++ groups n) := by
  refine ev_groups (fun k s n => spec_PutU.l0 k n s) ?_ ?_ s n hs h0 h1
  · intro s n r hs h0 h1 ih
    refine Ev.step (fun k => by rw [spec_PutU.l0]) ?_
    refine ev_pos h0 (ev_pos (by omega) ?_)
    rw [and127 n (by omega) (by omega), or128 _ (by omega) (by omega), show (n % 128 + 128) % 256 = n % 128 + 128 by omega]
    exact ih
  · intro s n hs h0 h1
    refine Ev.step (fun k => by rw [spec_PutU.l0]) ?_
    refine ev_neg (by omega) (ev_pos (by omega) (ev_some ?_))
    rw [show n % 256 = n by omega]
theorem spec_PutU_ev (l : List Int) (n : Int) (hs : l.length < 140737488355317) : Ev (fun k => spec_PutU.f k l n) (l ++ uM n) := by
  have hb := clampU_bd n
  unfold spec_PutU.f
  refine Ev.bind (ev_c rfl) (ev_pos (by simp; omega) (Ev.bind (ev_c rfl) ?_))
  simp only [List.nil_append]
  unfold uM
  refine ev_ite (fun h => ?_) (fun h => ?_)
  · have e : clampU n = 1000000 := by unfold clampU; rw [if_neg (by omega), if_pos h]
    rw [e]
    refine Ev.step (fun k => by rw [spec_PutU.j0]) (ev_neg (by omega) (Ev.step (fun k => by rw [spec_PutU.j1]) ?_))
    exact spec_PutU_loop _ _ hs (by omega) (by omega)
  · refine Ev.step (fun k => by rw [spec_PutU.j0]) (ev_ite (fun h2 => ?_) (fun h2 => ?_))
    · have e : clampU n = 0 := by unfold clampU; rw [if_pos h2]
      rw [e]
      exact Ev.step (fun k => by rw [spec_PutU.j1]) (spec_PutU_loop _ _ hs (by omega) (by omega))
    · have e : clampU n = n := by unfold clampU; rw [if_neg h2, if_neg h]
      rw [e]
      exact Ev.step (fun k => by rw [spec_PutU.j1]) (spec_PutU_loop _ _ hs (by omega) (by omega))
theorem spec_PutText_ev (l : List Int) (s : ByteArray) (hs : l.length + s.size < 140737488355310) : Ev (fun k => spec_PutText.f k l s) (l ++ uM s.size ++ bytesOf s) := by
  have hb := uM_len s.size
  unfold spec_PutText.f
  refine Ev.bind (spec_PutU_ev l _ (by omega)) (ev_pos (by simp only [List.length_append]; omega) (ev_some rfl))
theorem spec_PutSum_ev (l : List Int) (hs : l.length < 140737488355310) (hb : ∀ b ∈ l, 0 ≤ b ∧ b ≤ 255) : Ev (fun k => spec_PutSum.f k l) (l ++ sum4 (crcM l)) := by
  unfold spec_PutSum.f
  refine Ev.bind (spec_Crc_ev l (by omega) hb) ?_
  refine Ev.bind (ev_c rfl) (ev_pos (by simp; omega) (Ev.bind (ev_c rfl) (Ev.bind (ev_c rfl) (ev_pos (by simp; omega) (ev_some rfl)))))
theorem spec_EncodeRow_ev (l : List (S119)) (vs : List (S116)) (hl : l.length ≤ 1048576) (hs : vs.length ≤ 1048576) (hz : valSz vs ≤ 2000000) : Ev (fun k => spec_EncodeRow.f k l vs) (encM l vs) := by
  unfold spec_EncodeRow.f encM
  refine Ev.bind (spec_RowOk_ev l vs (by omega)) ?_
  refine ev_ite (fun h => ?_) (fun h => by rw [if_neg h]; exact ev_some rfl)
  rw [if_pos h]
  refine Ev.bind (spec_PutU_ev _ _ (by simp)) ?_
  rw [List.nil_append]
  have hl2 := uM_len vs.length
  have hb := sum_valM vs
  unfold rowB
  refine ev_flatB (fun k s i => spec_EncodeRow.l0 k vs s i) vs (fun v => valM v.f0 v.f1 v.f2) (fun b => b ++ sum4 (crcM b)) 100000000 (fun _ => valM_bytes _ _ _) ?_ ?_ (uM vs.length) (by omega) (uM_bytes _)
  · intro s hS hbs
    refine Ev.step (fun k => by rw [spec_EncodeRow.l0]) (ev_neg (by omega) ?_)
    exact Ev.bind (spec_PutSum_ev s (by omega) hbs) (ev_some rfl)
  · intro s i x r hS hi hx ih
    have hk := uM_len x.f0
    have hv : (valM x.f0 x.f1 x.f2).length = (uM x.f0).length + (if x.f0 = 1 ∨ x.f0 = 2 then varM x.f1 else if x.f0 = 3 then txtM x.f2 else if x.f0 = 4 then [x.f1 % 256] else []).length := by unfold valM; rw [List.length_append]
    rw [valM_app] at ih
    refine Ev.step (fun k => by rw [spec_EncodeRow.l0]) (ev_pos (by omega) (ev_pos (by omega) ?_))
    rw [show rd_T116 vs (i : Int) = x from getD_at hx]
    refine Ev.bind (spec_PutU_ev s x.f0 (by omega)) ?_
    have tail : ∀ c : Bool, c = decide (x.f0 = 1 ∨ x.f0 = 2) → Ev (fun k => spec_EncodeRow.j1 k vs (s ++ uM x.f0) (i : Int) x.f0 c x.f0 x.f1 x.f2) r := by
      intro c hc
      refine Ev.step (fun k => by rw [spec_EncodeRow.j1]) ?_
      rw [wrap_succ (by omega), hc]
      refine ev_ite (fun h => ?_) (fun h => ?_)
      · have h' := of_decide_eq_true h
        rw [if_pos h'] at ih hv
        exact Ev.bind (spec_PutVar_ev (s ++ uM x.f0) x.f1 (by rw [List.length_append]; omega)) ih
      · have h' : ¬ (x.f0 = 1 ∨ x.f0 = 2) := fun h2 => h (decide_eq_true h2)
        rw [if_neg h'] at ih hv
        refine ev_ite (fun h3 => ?_) (fun h3 => ?_)
        · rw [if_pos h3] at ih hv
          have hx2 := bytesOf_length x.f2
          have := spec_PutText_ev (s ++ uM x.f0) x.f2 (by rw [List.length_append]; unfold txtM at hv; rw [List.length_append] at hv; omega)
          rw [List.append_assoc] at this
          exact Ev.bind this ih
        · rw [if_neg h3] at ih hv
          refine ev_ite (fun h4 => ?_) (fun h4 => ?_)
          · rw [if_pos h4] at ih
            exact ev_pos (by rw [List.length_append]; omega) ih
          · rw [if_neg h4, List.append_nil] at ih
            exact ih
    refine ev_ite (fun h => tail _ (by simp [h])) (fun h => tail _ ?_)
    by_cases h2 : x.f0 = 2
    · simp [h2]
    · simp [h, h2]
theorem spec_l1New_loop (l : List Int) (hl : l.length ≤ 1048576) : ∀ (d i : Nat) (x : Int), i + d = min l.length 4000 → EvP (fun k => spec_l1New.l0 k l x (i : Int)) (fun r => r.1 = l ∧ r.2.1 = 0) := by
  intro d
  induction d with
  | zero =>
    intro i x hi
    refine EvP.step (fun k => by rw [spec_l1New.l0]) ?_
    refine EvP.ite (fun h => ?_) (fun h => ?_)
    · exact EvP.neg (by omega) (EvP.some_ ⟨rfl, rfl⟩)
    · exact EvP.some_ ⟨rfl, rfl⟩
  | succ d ih =>
    intro i x hi
    refine EvP.step (fun k => by rw [spec_l1New.l0]) ?_
    refine EvP.pos (by omega) (EvP.pos (by omega) (EvP.pos (by omega) ?_))
    rw [wrap_succ (by omega)]
    exact ih (i + 1) _ (by omega)
theorem spec_l1New_evp (l : List Int) (hl : l.length ≤ 1048576) : EvP (fun k => spec_l1New.f k l) (fun r => r.1 = l ∧ r.2.1 = 0) := by
  unfold spec_l1New.f
  exact spec_l1New_loop l hl (min l.length 4000) 0 _ (by omega)
theorem spec_l1Byte_evp (b : List Int) (i h : Int) (hi : inv b i) (hb : b.length ≤ 1048576) : EvP (fun _ => spec_l1Byte.f b i h) (fun r => 0 ≤ r.1 ∧ r.1 ≤ 255 ∧ inv b r.2.1) := by
  unfold spec_l1Byte.f
  unfold inv at *
  refine EvP.ite (fun g => ?_) (fun g => ?_)
  · refine EvP.pos hi.1 (EvP.some_ ⟨(and255 _).1, (and255 _).2, ?_⟩)
    dsimp only
    rw [wrap_id (by omega) (by omega)]
    omega
  · exact EvP.some_ ⟨(and255 _).1, (and255 _).2, hi⟩
theorem spec_l1Below_evp (b : List Int) (i h n : Int) (hi : inv b i) (hb : b.length ≤ 1048576) : EvP (fun _ => spec_l1Below.f b i h n) (fun r => 0 ≤ r.1 ∧ (0 < n → r.1 < n) ∧ inv b r.2.1) := by
  have md : ∀ x : Int, 0 ≤ x → ¬ n ≤ 0 → 0 ≤ Int.tmod x n ∧ (0 < n → Int.tmod x n < n) := by
    intro x hx hn
    rw [Int.tmod_eq_emod_of_nonneg hx]
    exact ⟨Int.emod_nonneg _ (by omega), fun h => Int.emod_lt_of_pos _ h⟩
  unfold spec_l1Below.f
  refine EvP.ite (fun g => EvP.some_ ⟨by simp, fun h => by omega, hi⟩) (fun g => ?_)
  refine EvP.ite (fun g2 => ?_) (fun g2 => ?_)
  · refine EvP.bind (spec_l1Byte_evp b i h hi hb) (fun r hr => ?_)
    have := md r.1 hr.1 g
    exact EvP.neg (by omega) (EvP.some_ ⟨this.1, this.2, hr.2.2⟩)
  · refine EvP.bind (spec_l1Byte_evp b i h hi hb) (fun r hr => ?_)
    refine EvP.bind (spec_l1Byte_evp b _ _ hr.2.2 hb) (fun s hs => ?_)
    refine EvP.bind (spec_l1Byte_evp b _ _ hs.2.2 hb) (fun t ht => ?_)
    have e : wrap64 (wrap64 (wrap64 (r.1 * 65536) + wrap64 (s.1 * 256)) + t.1) = r.1 * 65536 + s.1 * 256 + t.1 := by
      rw [wrap_id (x := r.1 * 65536) (by omega) (by omega), wrap_id (x := s.1 * 256) (by omega) (by omega), wrap_id (x := r.1 * 65536 + s.1 * 256) (by omega) (by omega), wrap_id (by omega) (by omega)]
    rw [e]
    have := md (r.1 * 65536 + s.1 * 256 + t.1) (by omega) g
    exact EvP.neg (by omega) (EvP.some_ ⟨this.1, this.2, ht.2.2⟩)
theorem spec_l1Int_evp (b : List Int) (i h : Int) (l : List Int) (hl : 0 < l.length) (hi : inv b i) (hb : b.length ≤ 1048576) : EvP (fun _ => spec_l1Int.f b i h l) (fun r => r.1 ∈ l ∧ inv b r.2.1) := by
  unfold spec_l1Int.f
  refine EvP.bind (spec_l1Below_evp b i h _ hi hb) (fun r hr => ?_)
  have h2 := hr.2.1 (by omega)
  refine EvP.pos hr.1 (EvP.pos h2 (EvP.some_ ⟨?_, hr.2.2⟩))
  have hx : l[r.1.toNat]? = some l[r.1.toNat] := List.getElem?_eq_getElem (by omega)
  have e : rd l r.1 = l[r.1.toNat] := by
    have h3 : rd l ((r.1.toNat : Nat) : Int) = l[r.1.toNat] := rd_at hx
    rwa [show ((r.1.toNat : Nat) : Int) = r.1 by omega] at h3
  dsimp only
  rw [e]
  exact List.getElem_mem _
theorem spec_l1Bend_evp (b : List Int) (i h : Int) (l : List Int) (hi : inv b i) (hb : b.length ≤ 1048576) (hl : l.length ≤ 1000000) (hbl : ∀ x ∈ l, 0 ≤ x ∧ x ≤ 255) : EvP (fun _ => spec_l1Bend.f b i h l) (fun r => r.1.length ≤ 1000001 ∧ ∀ x ∈ r.1, 0 ≤ x ∧ x ≤ 255) := by
  unfold spec_l1Bend.f
  refine EvP.ite (fun _ => EvP.some_ ⟨by dsimp only; omega, hbl⟩) (fun g => ?_)
  refine EvP.bind (spec_l1Below_evp b i h 5 hi hb) (fun r hr => ?_)
  refine EvP.ite (fun _ => ?_) (fun _ => ?_)
  · refine EvP.bind (spec_l1Below_evp b _ _ (l.length : Int) hr.2.2 hb) (fun s hs => ?_)
    refine EvP.bind (spec_l1Int_evp b _ _ _ (by simp) hs.2.2 hb) (fun t ht => ?_)
    refine EvP.pos hs.1 (EvP.pos (hs.2.1 (by omega)) (EvP.some_ ⟨by dsimp only; rw [List.length_set]; omega, ?_⟩))
    intro x hx
    rcases List.mem_or_eq_of_mem_set hx with hx | hx
    · exact hbl x hx
    · rw [hx]; omega
  refine EvP.ite (fun _ => ?_) (fun _ => ?_)
  · refine EvP.pos (by omega) (EvP.some_ ⟨by dsimp only; rw [List.length_append, List.length_singleton]; omega, ?_⟩)
    intro x hx
    rcases List.mem_append.1 hx with hx | hx
    · exact hbl x hx
    · rw [List.mem_singleton] at hx; omega
  refine EvP.ite (fun _ => ?_) (fun _ => EvP.some_ ⟨by dsimp only; omega, hbl⟩)
  refine EvP.bind (spec_l1Below_evp b _ _ (l.length : Int) hr.2.2 hb) (fun s hs => ?_)
  refine EvP.pos hs.1 (EvP.pos (by have := hs.2.1 (by omega); omega) (EvP.some_ ⟨by dsimp only; rw [List.length_take]; omega, fun x hx => hbl x (List.mem_of_mem_take hx)⟩))
theorem spec_l1Once_evp (b : List Int) (i h n : Int) (hi : inv b i) (hb : b.length ≤ 1048576) : EvP (fun _ => spec_l1Once.f b i h n) (fun r => inv b r.2.1) := by
  unfold spec_l1Once.f
  exact EvP.bind (spec_l1Below_evp b i h n hi hb) (fun r hr => EvP.some_ hr.2.2)
theorem spec_l5Draw_evp (b : List Int) (ci h a : Int) (hc : inv b ci) (hb : b.length ≤ 1048576) : EvP (fun _ => spec_l5Draw.f b ci h a) (fun r => inv b r.2.2.2.2.1) := by
  unfold spec_l5Draw.f
  refine EvP.bind (spec_l1Below_evp b ci h 4 hc hb) (fun r hr => ?_)
  refine EvP.bind (spec_l1Once_evp b _ _ 2 hr.2.2 hb) (fun s hs => ?_)
  exact EvP.bind (spec_l1Once_evp b _ _ 2 hs hb) (fun t ht => EvP.some_ ht)
theorem spec_l6Plan_l0 (b : List Int) (hb : b.length ≤ 1048576) : ∀ (d : Nat) (l : List (S119)) (ci h : Int), inv b ci → l.length + d ≤ 10 → EvP (fun k => spec_l6Plan.l0 k l (d : Int) b ci h) (fun r => r.1.length = l.length + d ∧ inv b r.2.1) := by
  intro d
  induction d with
  | zero =>
    intro l ci h hc _
    exact EvP.step (fun k => by rw [spec_l6Plan.l0]) (EvP.neg (by omega) (EvP.some_ ⟨rfl, hc⟩))
  | succ d ih =>
    intro l ci h hc hl
    refine EvP.step (fun k => by rw [spec_l6Plan.l0]) (EvP.pos (by omega) ?_)
    rw [show wrap64 (((d + 1 : Nat) : Int) - 1) = (d : Int) by rw [wrap_id (by omega) (by omega)]; omega]
    refine EvP.bind (spec_l1Below_evp b ci h 4 hc hb) (fun r hr => ?_)
    refine EvP.bind (spec_l5Draw_evp b _ _ _ hr.2.2 hb) (fun s hs => EvP.pos (by omega) ?_)
    refine EvP.mono (ih _ _ _ hs (by rw [List.length_append, List.length_singleton]; omega)) (fun t ht => ⟨?_, ht.2⟩)
    rw [ht.1, List.length_append, List.length_singleton]
    omega
theorem spec_l6Plan_evp (b : List Int) (ci h : Int) (hc : inv b ci) (hb : b.length ≤ 1048576) : EvP (fun k => spec_l6Plan.f k b ci h) (fun r => 1 ≤ r.1.length ∧ r.1.length ≤ 3 ∧ inv b r.2.1) := by
  unfold spec_l6Plan.f
  refine EvP.bind (spec_l1Below_evp b ci h 3 hc hb) (fun r hr => ?_)
  have h3 := hr.2.1 (by omega)
  obtain ⟨n, hn⟩ := Int.eq_ofNat_of_zero_le hr.1
  rw [show wrap64 (1 + r.1) = ((n + 1 : Nat) : Int) by rw [wrap_id (by omega) (by omega)]; omega]
  refine EvP.mono (spec_l6Plan_l0 b hb (n + 1) [] _ _ hr.2.2 (by simp; omega)) (fun t ht => ?_)
  have := ht.1
  simp only [List.length_nil] at this
  exact ⟨by omega, by omega, ht.2⟩
theorem spec_l5Any_evp (b : List Int) (ci h : Int) (hc : inv b ci) (hb : b.length ≤ 1048576) : EvP (fun _ => spec_l5Any.f b ci h) (fun r => inv b r.2.2.2.2.1) := by
  unfold spec_l5Any.f
  refine EvP.bind (spec_l1Below_evp b ci h 3 hc hb) (fun r hr => ?_)
  refine EvP.bind (spec_l5Draw_evp b _ _ _ hr.2.2 hb) (fun s hs => ?_)
  refine EvP.bind (spec_l1Below_evp b _ _ 12 hs hb) (fun t ht => ?_)
  refine EvP.ite (fun _ => ?_) (fun _ => EvP.ite (fun _ => ?_) (fun _ => EvP.some_ ht.2.2))
  · exact EvP.bind (spec_l1Int_evp b _ _ _ (by simp) ht.2.2 hb) (fun u hu => EvP.some_ hu.2)
  · exact EvP.bind (spec_l1Below_evp b _ _ 6 ht.2.2 hb) (fun u hu => EvP.some_ hu.2.2)
theorem spec_l6Any_l0 (b : List Int) (hb : b.length ≤ 1048576) : ∀ (d : Nat) (l : List (S119)) (ci h : Int), inv b ci → l.length + d = 7 → EvP (fun k => spec_l6Any.l0 k l b ci h) (fun r => r.1.length ≤ 7 ∧ inv b r.2.1) := by
  intro d
  induction d with
  | zero =>
    intro l ci h hc hl
    refine EvP.step (fun k => by rw [spec_l6Any.l0]) (EvP.bind (spec_l1Below_evp b ci h 2 hc hb) (fun r hr => ?_))
    have := hr.2.1 (by omega)
    rw [wrap_id (by omega) (by omega)]
    exact EvP.neg (by omega) (EvP.some_ ⟨by dsimp only; omega, hr.2.2⟩)
  | succ d ih =>
    intro l ci h hc hl
    refine EvP.step (fun k => by rw [spec_l6Any.l0]) (EvP.bind (spec_l1Below_evp b ci h 2 hc hb) (fun r hr => ?_))
    refine EvP.ite (fun _ => ?_) (fun _ => EvP.some_ ⟨by dsimp only; omega, hr.2.2⟩)
    refine EvP.bind (spec_l5Draw_evp b _ _ _ hr.2.2 hb) (fun s hs => EvP.pos (by omega) ?_)
    exact ih _ _ _ hs (by rw [List.length_append, List.length_singleton]; omega)
theorem spec_l6Any_evp (b : List Int) (ci h : Int) (hc : inv b ci) (hb : b.length ≤ 1048576) : EvP (fun k => spec_l6Any.f k b ci h) (fun r => r.1.length ≤ 7 ∧ inv b r.2.1) := by
  unfold spec_l6Any.f
  refine EvP.bind (spec_l6Plan_evp b ci h hc hb) (fun r hr => ?_)
  refine EvP.bind (spec_l1Below_evp b _ _ 12 hr.2.2 hb) (fun s hs => ?_)
  refine EvP.ite (fun _ => ?_) (fun _ => EvP.ite (fun _ => ?_) (fun _ => EvP.some_ ⟨by have := hr.2.1; dsimp only; omega, hs.2.2⟩))
  · refine EvP.bind (spec_l5Any_evp b _ _ hs.2.2 hb) (fun t ht => EvP.pos (by have := hr.1; omega) (EvP.some_ ⟨?_, ht⟩))
    have := hr.2.1
    dsimp only
    rw [List.length_set]
    omega
  · exact spec_l6Any_l0 b hb (7 - r.1.length) _ _ _ hs.2.2 (by have := hr.2.1; omega)
theorem spec_l1Str_evp (b : List Int) (i h : Int) (l : List ByteArray) (hl : 0 < l.length) (hi : inv b i) (hb : b.length ≤ 1048576) : EvP (fun _ => spec_l1Str.f b i h l) (fun r => r.1 ∈ l ∧ inv b r.2.1) := by
  unfold spec_l1Str.f
  refine EvP.bind (spec_l1Below_evp b i h _ hi hb) (fun r hr => ?_)
  have h2 := hr.2.1 (by omega)
  refine EvP.pos hr.1 (EvP.pos h2 (EvP.some_ ⟨?_, hr.2.2⟩))
  have hx : l[r.1.toNat]? = some l[r.1.toNat] := List.getElem?_eq_getElem (by omega)
  have e : rdOf ByteArray.empty l r.1 = l[r.1.toNat] := by
    have h3 : rdOf ByteArray.empty l ((r.1.toNat : Nat) : Int) = l[r.1.toNat] := rdOf_at hx
    rwa [show ((r.1.toNat : Nat) : Int) = r.1 by omega] at h3
  dsimp only
  rw [e]
  exact List.getElem_mem _
theorem spec_l2Text_evp (b : List Int) (ci h : Int) (hc : inv b ci) (hb : b.length ≤ 1048576) : EvP (fun _ => spec_l2Text.f b ci h) (fun r => r.1.size ≤ 100 ∧ inv b r.2.1) := by
  unfold spec_l2Text.f
  refine EvP.bind (spec_l1Str_evp b ci h _ (by simp) hc hb) (fun r hr => EvP.some_ ⟨?_, hr.2⟩)
  have := hr.1
  simp only [List.mem_cons, List.not_mem_nil, or_false] at this
  dsimp only
  rcases this with e | e | e | e | e | e | e | e | e | e <;> rw [e] <;> decide
def drawV (b : List Int) (r : Int × Int × ByteArray × Int × Int) : Prop := r.2.2.1.size ≤ 100 ∧ inv b r.2.2.2.1
theorem emp_small : (⟨#[]⟩ : ByteArray).size ≤ 100 := by decide
theorem spec_l2Of_j0 (b : List Int) (hb : b.length ≤ 1048576) (a : Int) (c : Bool) (ci h : Int) (hc : inv b ci) : EvP (fun k => spec_l2Of.j0 k a c b ci h) (drawV b) := by
  refine EvP.step (fun k => by rw [spec_l2Of.j0]) ?_
  refine EvP.ite (fun _ => EvP.some_ ⟨emp_small, hc⟩) (fun _ => EvP.ite (fun _ => ?_) (fun _ => EvP.ite (fun _ => ?_) (fun _ => EvP.ite (fun _ => ?_) (fun _ => ?_))))
  · exact EvP.bind (spec_l1Int_evp b ci h _ (by simp) hc hb) (fun r hr => EvP.some_ ⟨emp_small, hr.2⟩)
  · refine EvP.bind (spec_l1Below_evp b ci h _ hc hb) (fun r hr => ?_)
    exact EvP.bind (spec_l1Int_evp b _ _ _ (by simp) hr.2.2 hb) (fun s hs => EvP.some_ ⟨emp_small, hs.2⟩)
  · exact EvP.bind (spec_l2Text_evp b ci h hc hb) (fun r hr => EvP.some_ hr)
  · exact EvP.bind (spec_l1Below_evp b ci h _ hc hb) (fun r hr => EvP.some_ ⟨emp_small, hr.2.2⟩)
theorem spec_l2Of_evp (b : List Int) (ci h a : Int) (c : Bool) (hc : inv b ci) (hb : b.length ≤ 1048576) : EvP (fun k => spec_l2Of.f k b ci h a c) (drawV b) := by
  unfold spec_l2Of.f
  refine EvP.ite (fun _ => ?_) (fun _ => spec_l2Of_j0 b hb a false ci h hc)
  exact EvP.bind (spec_l1Once_evp b ci h 4 hc hb) (fun r hr => spec_l2Of_j0 b hb a _ _ _ hr)
theorem spec_l2Draw_evp (b : List Int) (ci h : Int) (hc : inv b ci) (hb : b.length ≤ 1048576) : EvP (fun k => spec_l2Draw.f k b ci h) (drawV b) := by
  unfold spec_l2Draw.f
  refine EvP.bind (spec_l1Below_evp b ci h 4 hc hb) (fun r hr => ?_)
  exact EvP.bind (spec_l2Of_evp b _ _ _ _ hr.2.2 hb) (fun s hs => EvP.some_ hs)
def smallV (n : Nat) (vs : List (S116)) : Prop := vs.length ≤ n ∧ ∀ v ∈ vs, v.f2.size ≤ 100
theorem smallV_snoc {n : Nat} {vs : List (S116)} {v : S116} (h : smallV n vs) (hv : v.f2.size ≤ 100) : smallV (n + 1) (vs ++ [v]) := by
  refine ⟨by rw [List.length_append, List.length_singleton]; have := h.1; omega, ?_⟩
  intro x hx
  rcases List.mem_append.1 hx with hx | hx
  · exact h.2 x hx
  · rw [List.mem_singleton] at hx; rw [hx]; exact hv
theorem spec_l6Vals_l0 (b : List Int) (hb : b.length ≤ 1048576) (l : List (S119)) (hl : l.length ≤ 7) (n : Int) : ∀ (d i : Nat) (vs : List (S116)) (ci h : Int), i + d = l.length → inv b ci → smallV i vs → EvP (fun k => spec_l6Vals.l0 k l n vs (i : Int) b ci h) (fun r => smallV 7 r.1 ∧ inv b r.2.1) := by
  intro d
  induction d with
  | zero =>
    intro i vs ci h hi hc hv
    have fin : smallV 7 vs := ⟨by have := hv.1; omega, hv.2⟩
    refine EvP.step (fun k => by rw [spec_l6Vals.l0]) ?_
    refine EvP.ite (fun _ => ?_) (fun _ => EvP.some_ ⟨fin, hc⟩)
    exact EvP.neg (by omega) (EvP.some_ ⟨fin, hc⟩)
  | succ d ih =>
    intro i vs ci h hi hc hv
    have fin : smallV 7 vs := ⟨by have := hv.1; omega, hv.2⟩
    refine EvP.step (fun k => by rw [spec_l6Vals.l0]) ?_
    refine EvP.ite (fun _ => ?_) (fun _ => EvP.some_ ⟨fin, hc⟩)
    refine EvP.pos (by omega) (EvP.pos (by omega) (EvP.bind (spec_l2Of_evp b ci h _ _ hc hb) (fun r hr => EvP.pos (by have := hv.1; omega) ?_)))
    rw [wrap_succ (by omega)]
    exact ih (i + 1) _ _ _ (by omega) hr.2 (smallV_snoc hv hr.1)
theorem spec_l6Vals_evp (b : List Int) (ci h : Int) (l : List (S119)) (n : Int) (hl : l.length ≤ 7) (hc : inv b ci) (hb : b.length ≤ 1048576) : EvP (fun k => spec_l6Vals.f k b ci h l n) (fun r => smallV 7 r.1 ∧ inv b r.2.1) := by
  unfold spec_l6Vals.f
  exact spec_l6Vals_l0 b hb l hl n l.length 0 [] ci h (by omega) hc ⟨by simp, by simp⟩
theorem spec_l7Row_evp (b : List Int) (ci h : Int) (l : List (S119)) (hl : l.length ≤ 7) (hc : inv b ci) (hb : b.length ≤ 1048576) : EvP (fun k => spec_l7Row.f k b ci h l) (fun r => smallV 7 r.1 ∧ inv b r.2.1) := by
  unfold spec_l7Row.f
  refine EvP.bind (EvP.ev (P := fun _ => True) (spec_PlanOk_ev l (by omega)) trivial) (fun s _ => EvP.ite (fun _ => ?_) (fun _ => ?_))
  · exact EvP.bind (spec_l6Vals_evp b _ _ l _ hl hc hb) (fun w hw => EvP.some_ hw)
  · refine EvP.bind (spec_l2Draw_evp b _ _ hc hb) (fun t ht => EvP.some_ ⟨⟨by simp, ?_⟩, ht.2⟩)
    intro x hx
    rw [List.mem_singleton] at hx; rw [hx]; exact ht.1
theorem valSz_small2 (vs : List (S116)) (h : ∀ v ∈ vs, v.f2.size ≤ 100) : valSz vs ≤ 100 * vs.length := by
  unfold valSz
  induction vs with
  | nil => simp
  | cons x r ih =>
    have h1 := h x List.mem_cons_self
    have h2 := ih (fun y hy => h y (List.mem_cons_of_mem _ hy))
    simp only [List.map_cons, List.sum_cons, List.length_cons]
    omega
theorem spec_DrawDecodeRow_j0 (b : List Int) (hb : b.length ≤ 1048576) (l : List (S119)) (hl : l.length ≤ 7) (e : List Int) (he : e.length ≤ 900000) (hbe : ∀ x ∈ e, 0 ≤ x ∧ x ≤ 255) (c : Bool) (hc : c = true → 4 < e.length) (ci h : Int) (hci : inv b ci) :
    EvP (fun k => spec_DrawDecodeRow.j0 k l e c b ci h) (fun r => r.1.length ≤ 7 ∧ r.2.length ≤ 1048576 ∧ ∀ x ∈ r.2, 0 ≤ x ∧ x ≤ 255) := by
  refine EvP.step (fun k => by rw [spec_DrawDecodeRow.j0]) ?_
  refine EvP.ite (fun g => ?_) (fun g => ?_)
  · have h4 := hc g
    rw [wrap_id (x := (e.length : Int) - 4) (by omega) (by omega)]
    refine EvP.pos (by omega) (EvP.pos (by omega) ?_)
    refine EvP.bind (spec_l1Bend_evp b ci h _ hci hb (by rw [List.length_take]; omega) (fun x hx => hbe x (List.mem_of_mem_take hx))) (fun r hr => ?_)
    refine EvP.bind (P := fun a => a = r.1 ++ sum4 (crcM r.1)) (EvP.ev (spec_PutSum_ev r.1 (by omega) hr.2) rfl) (fun s hs => EvP.some_ ⟨hl, ?_, ?_⟩)
    · dsimp only; rw [hs, List.length_append, show (sum4 (crcM r.1)).length = 4 from rfl]; omega
    · dsimp only; rw [hs]; exact app_bytes hr.2 (sum4_bytes _)
  · exact EvP.bind (spec_l1Bend_evp b ci h e hci hb (by omega) hbe) (fun r hr => EvP.some_ ⟨hl, by dsimp only; omega, hr.2⟩)
theorem spec_DrawDecodeRow_evp (l : List Int) (hl : l.length ≤ 1048576) : EvP (fun k => spec_DrawDecodeRow.f k l) (fun r => r.1.length ≤ 7 ∧ r.2.length ≤ 1048576 ∧ ∀ x ∈ r.2, 0 ≤ x ∧ x ≤ 255) := by
  unfold spec_DrawDecodeRow.f
  refine EvP.bind (spec_l1New_evp l hl) (fun r hr => ?_)
  rw [hr.1, hr.2]
  refine EvP.bind (spec_l6Any_evp l 0 _ ⟨Int.le_refl _, by omega⟩ hl) (fun s hs => ?_)
  refine EvP.bind (spec_l7Row_evp l _ _ _ hs.1 hs.2 hl) (fun u hu => ?_)
  have hv := hu.1.1
  have hz := valSz_small2 u.1 hu.1.2
  have h1 := hs.1
  refine EvP.bind (P := fun a => a = encM s.1 u.1) (EvP.ev (spec_EncodeRow_ev s.1 u.1 (by omega) (by omega) (by omega)) rfl) (fun e he => ?_)
  have el := encM_len s.1 u.1
  have eb : ∀ x ∈ encM s.1 u.1, 0 ≤ x ∧ x ≤ 255 := by
    unfold encM
    split
    · exact app_bytes (rowB_bytes _) (sum4_bytes _)
    · intro x hx; cases hx
  rw [he]
  refine EvP.ite (fun g => ?_) (fun g => ?_)
  · exact EvP.bind (spec_l1Once_evp l _ _ 3 hu.2 hl) (fun t ht => spec_DrawDecodeRow_j0 l hl s.1 h1 _ (by omega) eb _ (fun _ => by omega) _ _ ht)
  · exact spec_DrawDecodeRow_j0 l hl s.1 h1 _ (by omega) eb _ (fun h => by cases h) _ _ hu.2
theorem decM_cases (l : List (S119)) (b : List Int) (hb : ∀ x ∈ b, 0 ≤ x ∧ x ≤ 255) : decM l b = ([], false) ∨ ∃ vs, decM l b = (vs, true) ∧ rowOkM l vs = true ∧ encM l vs = b ∧ valSz vs ≤ b.length := by
  have hg := getSumM_of b
  unfold decM
  by_cases h1 : (getSumM b).2 = true
  rotate_left
  · rw [if_neg h1]; exact Or.inl rfl
  rw [if_pos h1]
  have hbb := hg.2.2.2 hb
  have hB := hg.2.1 h1
  cases hu : getUM (getSumM b).1 with
  | none => exact Or.inl rfl
  | some p =>
    obtain ⟨n, c⟩ := p
    simp only
    by_cases h2 : n = l.length ∧ n ≤ 6
    rotate_left
    · rw [if_neg h2]; exact Or.inl rfl
    rw [if_pos h2]
    cases hr : rowsM n.toNat ((getSumM b).1.drop c) with
    | none => exact Or.inl rfl
    | some q =>
      obtain ⟨vs, r⟩ := q
      unfold rowEnd
      simp only
      by_cases h3 : r = [] ∧ rowOkM l vs = true
      · rw [if_pos h3]
        have h4 := (rowsM_exact _ _ (fun x hx => hbb x (List.mem_of_mem_drop hx)) _ _ hr).2.2
        rw [List.length_drop] at h4
        have h5 := hg.1
        exact Or.inr ⟨vs, rfl, h3.2, ((enc_again l b (getSumM b).1 n c vs r hbb hB hu hr).2 h3).2, by omega⟩
      · rw [if_neg h3]; exact Or.inl rfl
theorem FnRowsRead : ∀ (l0 : List Int), (l0.length * 1 ≤ 140737488351232 ∧ ∀ e0 ∈ l0, (0 ≤ e0 ∧ e0 ≤ 255)) → ∃ k, laws_FnRowsRead.f k l0 = some true := by
  intro l hl
  refine Ev.rounds ?_
  have e : EvP (fun k => laws_FnRowsRead.f k l) (fun r => r = true) := by
    unfold laws_FnRowsRead.f
    refine EvP.bind (P := fun a => a = decide ((l.length : Int) > 1048576)) (EvP.ev (ev_c rfl) rfl) (fun a ha => ?_)
    refine EvP.ite (fun _ => EvP.some_ rfl) (fun g => ?_)
    have hl2 : l.length ≤ 1048576 := by
      rw [ha, decide_eq_true_iff] at g
      omega
    refine EvP.bind (spec_DrawDecodeRow_evp l hl2) (fun d hd => ?_)
    obtain ⟨ps, b⟩ := d
    dsimp only at hd ⊢
    obtain ⟨h1, h2, h3⟩ := hd
    refine EvP.bind (P := fun a => a = decM ps b) (EvP.ev (impl_DecodeRow_ev ps b (by omega) h2 h3) rfl) (fun x hx => ?_)
    refine EvP.bind (P := fun a => a = decM ps b) (EvP.ev (spec_DecodeRow_ev ps b (by omega) h2 h3) rfl) (fun y hy => ?_)
    rw [hx, hy]
    refine EvP.pos (by simp) ?_
    have dl := decM_len ps b h3
    rcases decM_cases ps b h3 with h | ⟨vs, h, ok, en, vz0⟩
    · rw [h]
      exact EvP.neg (by simp) (EvP.pos rfl (EvP.some_ rfl))
    · rw [h] at dl ⊢
      dsimp only at dl ⊢
      refine EvP.pos rfl ?_
      have vz : valSz vs ≤ 2000000 := by omega
      refine EvP.bind (P := fun a => a = rowOkM ps vs) (EvP.ev (impl_RowOk_ev ps vs (by omega)) rfl) (fun o ho => ?_)
      refine EvP.pos (by rw [ho, ok]) ?_
      refine EvP.bind (P := fun a => a = encM ps vs) (EvP.ev (impl_EncodeRow_ev ps vs (by omega) (by omega) vz) rfl) (fun f hf => ?_)
      rw [hf, en]
      exact EvP.bind (P := fun a => a = true) (EvP.ev (laws_sameBytes_self b (by omega)) rfl) (fun s hs => EvP.some_ hs)
  obtain ⟨r, hr, rfl⟩ := e
  exact hr
end Go.Proofs.Ytllgmgpfdnofmaa.Pure
