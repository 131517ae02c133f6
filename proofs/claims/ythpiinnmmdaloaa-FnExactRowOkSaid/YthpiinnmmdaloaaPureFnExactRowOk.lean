/- The law FnExactRowOk in plain words: what the printed functions answer, and that the two agree. Its conditions: the bounds that memory sets. -/
import Derived.Test.YthpiinnmmdaloaaPFnExactRowOkx5
import Derived.Test.YthpiinnmmdaloaaKit
namespace Go.Proofs.Ythpiinnmmdaloaa.Pure
open Go.RowKit Go.Proofs.Ythpiinnmmdaloaa.PFnExactRowOk Go.Proofs.YthpiinnmmdaloaaW.PrintWords Go.Proofs.YthpiinnmmdaloaaW.PrintLast Go.Proofs.YthpiinnmmdaloaaW.PrintMore Go.Proofs.Ythpiinnmmdaloaa.Kit

theorem laws_szPartS_eq (l : List (S115)) (left : Int) (h0 : 0 ≤ left) (h1 : left ≤ 1048576) (hs : l.length ≤ 140737488351232) : laws_szPartS.f l left = some (szL left [l.length]) := by
  unfold laws_szPartS.f
  simp only [szL]
  rw [wrap_id (by omega) (by omega)]
  split <;> rfl

theorem laws_szVal_eq (a b : Int) (s : ByteArray) (left : Int) (h0 : 0 ≤ left) (h1 : left ≤ 1048576) (hs : s.size ≤ 140737488351232) : laws_szVal.f a b s left = some (szL left [s.size]) := by
  unfold laws_szVal.f
  simp only [szL]
  rw [wrap_id (by omega) (by omega)]
  split <;> rfl

theorem laws_szValS_ev (l : List (S110)) (left : Int) (h0 : 0 ≤ left) (h1 : left ≤ 1048576) (hs : l.length ≤ 140737488351232) (he : ∀ x ∈ l, x.f2.size ≤ 140737488351232) :
    Ev (fun k => laws_szValS.f k l left) (szL left (l.length :: l.map fun x => x.f2.size)) := by
  unfold laws_szValS.f
  rw [wrap_id (by omega) (by omega)]
  simp only [szL]
  refine ev_ite (fun h => by rw [if_pos h]; exact ev_some rfl) (fun h => ?_)
  rw [if_neg h]
  refine ev_listI0 (fun k s i => laws_szValS.l0 k l s i) l (fun s _ => 0 ≤ s ∧ s ≤ 1048576) (fun s _ r => szL s (r.map fun x => x.f2.size)) (left - l.length) (by omega) ?_ ?_
  · intro s hI
    refine Ev.step (fun k => by rw [laws_szValS.l0]) ?_
    exact ev_neg (by omega) (ev_some rfl)
  · intro s i x r hI hi hx hd ih
    refine Ev.step (fun k => by rw [laws_szValS.l0]) ?_
    refine ev_pos (by omega) (ev_pos (by omega) ?_)
    rw [wrap_succ (by omega), show rd_T110 l (i : Int) = x from getD_at hx]
    have hm := he x (List.mem_of_getElem? hx)
    refine Ev.bind (ev_c (laws_szVal_eq _ _ _ _ hI.1 hI.2 hm)) ?_
    simp only [szL, List.map_cons]
    by_cases c : s - x.f2.size < 0
    · simp only [if_pos c]; exact ev_pos (by omega) (ev_some rfl)
    · simp only [if_neg c]; exact ih _ (by omega)

theorem spec_l1In_eq (a b c : Int) : spec_l1In.f a b c = some (inB a b c) := by unfold spec_l1In.f inB; split <;> rfl

theorem spec_PartOk_eq (a b : Int) (c d : Bool) : spec_PartOk.f a b c d = some (partOkM a b) := by
  unfold spec_PartOk.f partOkM
  rw [spec_l1In_eq, spec_l1In_eq]
  by_cases h : inB a 0 9 = true <;> simp [h]

theorem spec_PlanOk_ev (l : List (S113)) (hs : l.length ≤ 281474976710656) : Ev (fun k => spec_PlanOk.f k l) (if l.all (fun p => partOkM p.f0 p.f1) = true then decide ((l.length : Int) ≤ 6) else false) := by
  refine ev_all (fun k i => spec_PlanOk.l0 k l i) l (fun p => partOkM p.f0 p.f1) (decide ((l.length : Int) ≤ 6)) ?_ ?_
  · refine Ev.step (fun k => by rw [spec_PlanOk.l0]) ?_
    exact ev_neg (by omega) (ev_some rfl)
  · intro i x r hi hx ih
    refine Ev.step (fun k => by rw [spec_PlanOk.l0]) ?_
    refine ev_pos (by omega) (ev_pos (by omega) ?_)
    rw [wrap_succ (by omega), show rd_T113 l (i : Int) = x from getD_at hx]
    refine Ev.bind (ev_c (spec_PartOk_eq _ _ _ _)) ?_
    refine ev_ite (fun h => by rw [if_pos h]; exact ih) (fun h => by rw [if_neg h]; exact ev_some rfl)

theorem spec_ValOk_eq (a b : Int) (s : ByteArray) : spec_ValOk.f a b s = some (valOkM a b (bytesOf s)) := by
  unfold spec_ValOk.f valOkM
  simp only [spec_l1In_eq, empty_toList, size_len, Option.bind_some]
  repeat' split
  all_goals simp_all

theorem spec_Fits_eq (p0 p1 : Int) (p2 p3 : Bool) (v0 v1 : Int) (v2 : ByteArray) : spec_Fits.f p0 p1 p2 p3 v0 v1 v2 = some (fitsM p1 p2 v0 v1 (bytesOf v2)) := by
  unfold spec_Fits.f fitsM
  rw [spec_ValOk_eq]
  simp only [Option.bind_some]
  repeat' split
  all_goals simp_all

def fitsP (x : S113 × S116) : Bool := fitsM x.1.f1 x.1.f2 x.2.f0 x.2.f1 (bytesOf x.2.f2)
def fitsAllM (l : List (S113)) (vs : List (S116)) : Bool := if l.length < vs.length then false else if (l.zip vs).all fitsP = true then true else false
theorem zip_at {α β : Type} {l : List α} {m : List β} {i : Nat} {x : α × β} (h : (l.zip m)[i]? = some x) : l[i]? = some x.1 ∧ m[i]? = some x.2 := by
  rw [List.getElem?_zip_eq_some] at h; exact h
theorem spec_FitsAll_ev (l : List (S113)) (vs : List (S116)) (hs : l.length ≤ 281474976710656) : Ev (fun k => spec_FitsAll.f k l vs) (fitsAllM l vs) := by
  unfold spec_FitsAll.f fitsAllM
  refine ev_ite (fun h => by rw [if_pos (by omega)]; exact ev_some rfl) (fun h => ?_)
  rw [if_neg (by omega)]
  have hz : (l.zip vs).length = vs.length := by rw [List.length_zip]; omega
  refine ev_all (fun k i => spec_FitsAll.l0 k l vs i) (l.zip vs) fitsP true ?_ ?_
  · refine Ev.step (fun k => by rw [spec_FitsAll.l0]) ?_
    exact ev_neg (by omega) (ev_some rfl)
  · intro i x r hi hx ih
    obtain ⟨h1, h2⟩ := zip_at hx
    refine Ev.step (fun k => by rw [spec_FitsAll.l0]) ?_
    refine ev_pos (by omega) (ev_pos (by omega) (ev_pos (by omega) ?_))
    rw [wrap_succ (by omega), show rd_T113 l (i : Int) = x.1 from getD_at h1, show rd_T116 vs (i : Int) = x.2 from getD_at h2]
    refine Ev.bind (ev_c (spec_Fits_eq _ _ _ _ _ _ _)) ?_
    exact ev_ite (fun h => by rw [if_pos (show fitsP x = true from h)]; exact ih) (fun h => by rw [if_neg (show ¬ fitsP x = true from h)]; exact ev_some rfl)

def planOkM (l : List (S113)) : Bool := if l.all (fun p => partOkM p.f0 p.f1) = true then decide ((l.length : Int) ≤ 6) else false
def rowOkM (l : List (S113)) (vs : List (S116)) : Bool := if planOkM l = true then (if (vs.length : Int) = (l.length : Int) then fitsAllM l vs else false) else false
theorem spec_RowOk_ev (l : List (S113)) (vs : List (S116)) (hs : l.length ≤ 281474976710656) : Ev (fun k => spec_RowOk.f k l vs) (rowOkM l vs) := by
  unfold spec_RowOk.f rowOkM
  refine Ev.bind (spec_PlanOk_ev l hs) ?_
  refine ev_ite (fun h => ?_) (fun h => by rw [if_neg (show ¬ planOkM l = true from h)]; exact ev_some rfl)
  rw [if_pos (show planOkM l = true from h)]
  refine ev_ite (fun h => ?_) (fun h => by rw [if_neg h]; exact ev_some rfl)
  rw [if_pos h]
  exact Ev.bind (spec_FitsAll_ev l vs hs) (ev_some rfl)

def cPart (x : S115) : S113 := ⟨x.f0, x.f1, x.f2, x.f3⟩
theorem laws_toPartS_ev (l : List (S115)) (hs : l.length ≤ 1048576) : Ev (fun k => laws_toPartS.f k l) (l.map cPart) := by
  unfold laws_toPartS.f
  refine ev_pos (by omega) (ev_pos (by omega) ?_)
  refine ev_fill (fun k s i => laws_toPartS.l0 k l s i) l cPart ?_ ?_ _ (by simp)
  · intro s hI
    refine Ev.step (fun k => by rw [laws_toPartS.l0]) ?_
    exact ev_neg (by omega) (ev_some rfl)
  · intro s i x r hI hi hx ih
    refine Ev.step (fun k => by rw [laws_toPartS.l0]) ?_
    refine ev_pos (by omega) (ev_pos (by omega) ?_)
    rw [wrap_succ (by omega), show rd_T115 l (i : Int) = x from getD_at hx]
    refine Ev.bind (ev_c (show laws_toPart.f x.f0 x.f1 x.f2 x.f3 = some (x.f0, x.f1, x.f2, x.f3) from rfl)) ?_
    refine ev_pos (by omega) ?_
    exact ih

def cVal (x : S110) : S116 := ⟨x.f0, x.f1, x.f2⟩
theorem laws_toValS_ev (l : List (S110)) (hs : l.length ≤ 1048576) : Ev (fun k => laws_toValS.f k l) (l.map cVal) := by
  unfold laws_toValS.f
  refine ev_pos (by omega) (ev_pos (by omega) ?_)
  refine ev_fill (fun k s i => laws_toValS.l0 k l s i) l cVal ?_ ?_ _ (by simp)
  · intro s hI
    refine Ev.step (fun k => by rw [laws_toValS.l0]) ?_
    exact ev_neg (by omega) (ev_some rfl)
  · intro s i x r hI hi hx ih
    refine Ev.step (fun k => by rw [laws_toValS.l0]) ?_
    refine ev_pos (by omega) (ev_pos (by omega) ?_)
    rw [wrap_succ (by omega), show rd_T110 l (i : Int) = x from getD_at hx]
    refine Ev.bind (ev_c (show laws_toVal.f x.f0 x.f1 x.f2 = some (x.f0, x.f1, x.f2) from rfl)) ?_
    refine ev_pos (by omega) ?_
    exact ih

theorem impl_in_eq (a b c : Int) : impl_in.f a b c = some (inB a b c) := by unfold impl_in.f inB; split <;> rfl

theorem impl_PartOk_eq (a b : Int) (c d : Bool) : impl_PartOk.f a b c d = some (partOkM a b) := by
  unfold impl_PartOk.f partOkM
  rw [impl_in_eq, impl_in_eq]
  by_cases h : inB a 0 9 = true <;> simp [h]

theorem impl_PlanOk_ev (l : List (S113)) (hs : l.length ≤ 281474976710656) : Ev (fun k => impl_PlanOk.f k l) (if l.all (fun p => partOkM p.f0 p.f1) = true then decide ((l.length : Int) ≤ 6) else false) := by
  have h := ev_list0 (fun k i => impl_PlanOk.l0 k l (l.length : Int) i) l (fun i r => decide ((l.length : Int) ≤ 6 ∨ r = []) && (r.all (fun p => partOkM p.f0 p.f1))) ?_ ?_
  · refine ev_eq h ?_
    by_cases c : l.all (fun p => partOkM p.f0 p.f1) = true
    · rw [if_pos c, c, Bool.and_true]
      congr 1
      simp only [eq_iff_iff]
      constructor
      · rintro (h | h)
        · exact h
        · rw [h]; simp
      · intro h; exact Or.inl h
    · rw [if_neg c, Bool.eq_false_iff.2 c, Bool.and_false]
  · refine Ev.step (fun k => by rw [impl_PlanOk.l0]) ?_
    exact ev_neg (by omega) (ev_some (by simp))
  · intro i x r hi hx hd ih
    refine Ev.step (fun k => by rw [impl_PlanOk.l0]) ?_
    refine ev_pos (by omega) (ev_pos (by omega) (ev_pos (by omega) ?_))
    have hl : r.length + i + 1 = l.length := by have := congrArg List.length hd; simp at this; omega
    refine ev_ite (fun h6 => ?_) (fun h6 => ?_)
    · refine ev_some ?_
      rw [decide_eq_false (by simp; omega)]; rfl
    · rw [wrap_succ (by omega), show rd_T113 l (i : Int) = x from getD_at hx]
      refine Ev.bind (ev_c (impl_PartOk_eq _ _ _ _)) ?_
      refine ev_ite (fun h => ?_) (fun h => ?_)
      · refine ev_eq ih ?_
        simp only [List.all_cons, h, Bool.true_and]
        congr 1
        by_cases h7 : (l.length : Int) ≤ 6
        · simp [h7]
        · cases r with
          | nil => simp at hl; omega
          | cons _ _ => simp [h7]
      · simp only [List.all_cons, Bool.eq_false_iff.2 h, Bool.false_and, Bool.and_false]
        exact ev_some rfl

theorem impl_ValOk_eq (a b : Int) (s : ByteArray) : impl_ValOk.f a b s = some (valOkM a b (bytesOf s)) := by
  unfold impl_ValOk.f valOkM
  simp only [impl_in_eq, empty_toList, size_len, Option.bind_some]
  repeat' split
  all_goals simp_all

theorem impl_Fits_eq (p0 p1 : Int) (p2 p3 : Bool) (v0 v1 : Int) (v2 : ByteArray) : impl_Fits.f p0 p1 p2 p3 v0 v1 v2 = some (fitsM p1 p2 v0 v1 (bytesOf v2)) := by
  unfold impl_Fits.f fitsM
  rw [impl_ValOk_eq]
  simp only [Option.bind_some]
  repeat' split
  all_goals simp_all

theorem impl_FitsAll_ev (l : List (S113)) (vs : List (S116)) (hs : l.length ≤ 281474976710656) : Ev (fun k => impl_FitsAll.f k l vs) (fitsAllM l vs) := by
  unfold impl_FitsAll.f fitsAllM
  refine ev_ite (fun h => by rw [if_pos (by omega)]; exact ev_some rfl) (fun h => ?_)
  rw [if_neg (by omega)]
  have hz : (l.zip vs).length = vs.length := by rw [List.length_zip]; omega
  refine ev_all (fun k i => impl_FitsAll.l0 k l vs (vs.length : Int) i) (l.zip vs) fitsP true ?_ ?_
  · refine Ev.step (fun k => by rw [impl_FitsAll.l0]) ?_
    exact ev_neg (by omega) (ev_some rfl)
  · intro i x r hi hx ih
    obtain ⟨h1, h2⟩ := zip_at hx
    refine Ev.step (fun k => by rw [impl_FitsAll.l0]) ?_
    refine ev_pos (by omega) (ev_pos (by omega) (ev_pos (by omega) (ev_pos (by omega) ?_)))
    rw [wrap_succ (by omega), show rd_T113 l (i : Int) = x.1 from getD_at h1, show rd_T116 vs (i : Int) = x.2 from getD_at h2]
    refine Ev.bind (ev_c (impl_Fits_eq _ _ _ _ _ _ _)) ?_
    exact ev_ite (fun h => by rw [if_pos (show fitsP x = true from h)]; exact ih) (fun h => by rw [if_neg (show ¬ fitsP x = true from h)]; exact ev_some rfl)

theorem impl_RowOk_ev (l : List (S113)) (vs : List (S116)) (hs : l.length ≤ 281474976710656) : Ev (fun k => impl_RowOk.f k l vs) (rowOkM l vs) := by
  unfold impl_RowOk.f rowOkM
  refine Ev.bind (impl_PlanOk_ev l hs) ?_
  refine ev_ite (fun h => ?_) (fun h => by rw [if_neg (show ¬ planOkM l = true from h)]; exact ev_some rfl)
  rw [if_pos (show planOkM l = true from h)]
  refine ev_ite (fun h => ?_) (fun h => by rw [if_neg h]; exact ev_some rfl)
  rw [if_pos h]
  exact Ev.bind (impl_FitsAll_ev l vs hs) (ev_some rfl)

theorem laws_eqPart_self (x : S113) : laws_eqPart.f x.f0 x.f1 x.f2 x.f3 x.f0 x.f1 x.f2 x.f3 = some true := by
  unfold laws_eqPart.f; simp
theorem laws_eqPartS_self (l : List (S113)) (hs : l.length ≤ 281474976710656) : Ev (fun k => laws_eqPartS.f k l l) true := by
  unfold laws_eqPartS.f
  refine ev_pos rfl ?_
  refine ev_pass (fun k i => laws_eqPartS.l0 k l l i) l true ?_ ?_
  · refine Ev.step (fun k => by rw [laws_eqPartS.l0]) ?_
    exact ev_neg (by omega) (ev_some rfl)
  · intro i x hi hx ih
    refine Ev.step (fun k => by rw [laws_eqPartS.l0]) ?_
    refine ev_pos (by omega) (ev_pos (by omega) (ev_pos (by omega) ?_))
    rw [wrap_succ (by omega)]
    refine Ev.bind (ev_c (laws_eqPart_self _)) ?_
    exact ev_pos rfl ih

theorem laws_eqVal_self (x : S116) : laws_eqVal.f x.f0 x.f1 x.f2 x.f0 x.f1 x.f2 = some true := by
  unfold laws_eqVal.f; simp
theorem laws_eqValS_self (l : List (S116)) (hs : l.length ≤ 281474976710656) : Ev (fun k => laws_eqValS.f k l l) true := by
  unfold laws_eqValS.f
  refine ev_pos rfl ?_
  refine ev_pass (fun k i => laws_eqValS.l0 k l l i) l true ?_ ?_
  · refine Ev.step (fun k => by rw [laws_eqValS.l0]) ?_
    exact ev_neg (by omega) (ev_some rfl)
  · intro i x hi hx ih
    refine Ev.step (fun k => by rw [laws_eqValS.l0]) ?_
    refine ev_pos (by omega) (ev_pos (by omega) (ev_pos (by omega) ?_))
    rw [wrap_succ (by omega)]
    refine Ev.bind (ev_c (laws_eqVal_self _)) ?_
    exact ev_pos rfl ih

theorem FnExactRowOk : ∀ (l0 : List (S115)) (l1 : List (S110)), (l0.length * 24 ≤ 140737488351232 ∧ ∀ e0 ∈ l0, ((-9223372036854775808 ≤ e0.f0 ∧ e0.f0 ≤ 9223372036854775807) ∧ (-9223372036854775808 ≤ e0.f1 ∧ e0.f1 ≤ 9223372036854775807) ∧ True ∧ True)) → (l1.length * 32 ≤ 140737488351232 ∧ ∀ e0 ∈ l1, ((-9223372036854775808 ≤ e0.f0 ∧ e0.f0 ≤ 9223372036854775807) ∧ (-9223372036854775808 ≤ e0.f1 ∧ e0.f1 ≤ 9223372036854775807) ∧ e0.f2.size ≤ 140737488351232)) → ∃ k, laws_FnExactRowOk.f k l0 l1 = some true := by
  intro l vs hl hv
  refine Ev.rounds ?_
  unfold laws_FnExactRowOk.f
  have hl1 : l.length ≤ 140737488351232 := by omega
  refine Ev.bind (ev_c (laws_szPartS_eq l _ (by omega) (by omega) hl1)) ?_
  refine ev_ite (fun _ => ev_some rfl) (fun h1 => ?_)
  have b1 := szL_le [l.length] 1048576 (by omega)
  refine Ev.bind (laws_szValS_ev vs _ (by omega) (by omega) (by omega) (fun x hx => (hv.2 x hx).2.2)) ?_
  refine ev_ite (fun _ => ev_some rfl) (fun h2 => ?_)
  have c1 : l.length ≤ 1048576 := by simp only [szL] at h1; omega
  have c2 : vs.length ≤ 1048576 := by simp only [szL] at h2; omega
  have p1 : Ev (fun k => laws_toPartS.f k l) (l.map cPart) := laws_toPartS_ev l c1
  have p2 : Ev (fun k => laws_toValS.f k vs) (vs.map cVal) := laws_toValS_ev vs c2
  have c3 : (l.map cPart).length ≤ 281474976710656 := by rw [List.length_map]; omega
  have c4 : (vs.map cVal).length ≤ 281474976710656 := by rw [List.length_map]; omega
  refine Ev.bind p1 (Ev.bind p2 ?_)
  refine Ev.bind (spec_RowOk_ev _ _ c3) ?_
  refine Ev.bind p1 (Ev.bind p2 ?_)
  refine Ev.bind (impl_RowOk_ev _ _ c3) ?_
  refine ev_neg (by simp) ?_
  refine Ev.bind p1 (Ev.bind (laws_eqPartS_self _ c3) (ev_pos rfl ?_))
  exact Ev.bind p2 (Ev.bind (laws_eqValS_self _ c4) (ev_pos rfl (ev_some rfl)))

end Go.Proofs.Ythpiinnmmdaloaa.Pure
