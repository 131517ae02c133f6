/- The law FnExactJoinTokens in plain words: what the printed functions answer, and that the two agree. Its conditions: the bounds that memory sets. -/
import Derived.Test.YthpiinnmmdaloaaPFnExactJoinTokensx2
import Derived.Test.YthpiinnmmdaloaaKit
namespace Go.Proofs.Ythpiinnmmdaloaa.Pure
open Go.RowKit Go.Proofs.Ythpiinnmmdaloaa.PFnExactJoinTokens Go.Proofs.YthpiinnmmdaloaaW.PrintWords Go.Proofs.YthpiinnmmdaloaaW.PrintLast Go.Proofs.YthpiinnmmdaloaaW.PrintMore Go.Proofs.Ythpiinnmmdaloaa.Kit

theorem laws_szToken_eq (a : Int) (s : ByteArray) (left : Int) (h0 : 0 ≤ left) (h1 : left ≤ 1048576) (hs : s.size ≤ 140737488351232) : laws_szToken.f a s left = some (szM left s.size) := by
  unfold laws_szToken.f szM
  rw [wrap_id (by omega) (by omega)]
  split <;> rfl

theorem laws_szTokenS_ev (l : List (S23)) (left : Int) (h0 : 0 ≤ left) (h1 : left ≤ 1048576) (hs : l.length ≤ 140737488351232) (he : ∀ x ∈ l, x.f1.size ≤ 140737488351232) :
    Ev (fun k => laws_szTokenS.f k l left) (szL left (l.length :: l.map fun x => x.f1.size)) := by
  unfold laws_szTokenS.f
  rw [wrap_id (by omega) (by omega)]
  simp only [szL]
  refine ev_ite (fun h => by rw [if_pos h]; exact ev_some rfl) (fun h => ?_)
  rw [if_neg h]
  refine ev_listI0 (fun k s i => laws_szTokenS.l0 k l s i) l (fun s _ => 0 ≤ s ∧ s ≤ 1048576) (fun s _ r => szL s (r.map fun x => x.f1.size)) (left - l.length) (by omega) ?_ ?_
  · intro s hI
    refine Ev.step (fun k => by rw [laws_szTokenS.l0]) ?_
    exact ev_neg (by omega) (ev_some rfl)
  · intro s i x r hI hi hx hd ih
    refine Ev.step (fun k => by rw [laws_szTokenS.l0]) ?_
    refine ev_pos (by omega) (ev_pos (by omega) ?_)
    rw [wrap_succ (by omega), show rd_T23 l (i : Int) = x from getD_at hx]
    have hm := he x (List.mem_of_getElem? hx)
    refine Ev.bind (ev_c (laws_szToken_eq _ _ _ hI.1 hI.2 hm)) ?_
    simp only [szL, List.map_cons]
    unfold szM
    by_cases c : s - x.f1.size < 0
    · simp only [if_pos c]; exact ev_pos (by omega) (ev_some rfl)
    · simp only [if_neg c]; exact ih _ (by omega)

def spB : ByteArray := ⟨#[32]⟩
/-- What is joined: the tokens' texts, a blank between each two. -/
def restJ : ByteArray → Nat → List ByteArray → ByteArray
  | s, _, [] => s
  | s, i, x :: r => restJ ((if i = 0 then s else s ++ spB) ++ x) (i + 1) r
theorem restJ_tail (r : List ByteArray) : ∀ (s : ByteArray) (i : Nat), 0 < i → (restJ s i r).data.toList = s.data.toList ++ Lib.joinTail [32] (r.map (·.data.toList)) := by
  induction r with
  | nil => intro s i _; simp [restJ, Lib.joinTail]
  | cons x r ih =>
    intro s i hi
    rw [restJ, if_neg (by omega), ih _ _ (by omega)]
    simp [ByteArray.data_append, Lib.joinTail, spB, List.append_assoc]
theorem restJ_eq (l : List ByteArray) : restJ ⟨#[]⟩ 0 l = joinS l spB := by
  have h : (restJ ⟨#[]⟩ 0 l).data.toList = (joinS l spB).data.toList := by
    cases l with
    | nil => simp [restJ, joinS, Lib.join, List.intercalate]
    | cons x r =>
      rw [restJ, if_pos rfl, restJ_tail _ _ _ (by omega)]
      simp only [joinS, List.map_cons]
      rw [Lib.join_cons]
      simp [ByteArray.data_append, spB]
  have h2 : (restJ ⟨#[]⟩ 0 l).data = (joinS l spB).data := Array.toList_inj.1 h
  cases h3 : restJ ⟨#[]⟩ 0 l
  cases h4 : joinS l spB
  rw [h3, h4] at h2
  congr 1
theorem restJ_size (l : List ByteArray) : ∀ (s : ByteArray) (i : Nat), (restJ s i l).size ≤ s.size + (l.map ByteArray.size).sum + l.length := by
  induction l with
  | nil => intro s i; simp [restJ]
  | cons x r ih =>
    intro s i
    rw [restJ]
    have h := ih ((if i = 0 then s else s ++ spB) ++ x) (i + 1)
    rw [ByteArray.size_append] at h
    simp only [List.map_cons, List.sum_cons, List.length_cons]
    have : (if i = 0 then s else s ++ spB).size ≤ s.size + 1 := by
      split
      · omega
      · rw [ByteArray.size_append]; exact Nat.le_refl _
    omega

theorem spec_JoinTokens_ev (l : List (S26)) (hs : l.length ≤ 1048576) (ht : (l.map fun x => x.f1.size).sum ≤ 1048576) : Ev (fun k => spec_JoinTokens.f k l) (joinS (l.map (·.f1)) spB) := by
  unfold spec_JoinTokens.f
  rw [← restJ_eq]
  refine ev_listI0 (fun k s i => spec_JoinTokens.l0 k l s i) l (fun s i => s.size + ((l.drop i).map fun x => x.f1.size).sum + (l.length - i) ≤ 2097152) (fun s i r => restJ s i (r.map (·.f1))) (⟨#[]⟩ : ByteArray) ?_ ?_ ?_
  · rw [List.drop_zero]; show 0 + _ + _ ≤ _; omega
  · intro s hI
    refine Ev.step (fun k => by rw [spec_JoinTokens.l0]) ?_; exact ev_neg (by omega) (ev_some rfl)
  · intro s i x r hI hi hx hd ih
    have hr : l.drop (i + 1) = r := by rw [← List.drop_drop, hd]; rfl
    rw [hd] at hI
    simp only [List.map_cons, List.sum_cons] at hI
    refine Ev.step (fun k => by rw [spec_JoinTokens.l0]) ?_; refine ev_pos (by omega) ?_
    rw [wrap_succ (by omega), show rd_T26 l (i : Int) = x from getD_at hx, List.map_cons, restJ]
    have e1 : (s ++ (⟨#[32]⟩ : ByteArray)).size = s.size + 1 := by rw [ByteArray.size_append]; rfl
    by_cases h0 : i = 0
    · subst h0
      rw [if_pos rfl]
      refine ev_neg (by omega) (ev_pos (by omega) (ev_pos (by omega) (ih _ ?_)))
      rw [hr, ByteArray.size_append]; omega
    · rw [if_neg h0]
      refine ev_pos (by omega) (ev_pos (by omega) (ev_pos (by omega) (ev_pos (by rw [e1]; omega) (ih _ ?_))))
      rw [hr, ByteArray.size_append, e1]; omega

def cToken (x : S23) : S26 := ⟨x.f0, x.f1⟩
theorem laws_toTokenS_ev (l : List (S23)) (hs : l.length ≤ 1048576) : Ev (fun k => laws_toTokenS.f k l) (l.map cToken) := by
  unfold laws_toTokenS.f
  refine ev_pos (by omega) (ev_pos (by omega) ?_)
  refine ev_fill (fun k s i => laws_toTokenS.l0 k l s i) l cToken ?_ ?_ _ (by simp)
  · intro s hI
    refine Ev.step (fun k => by rw [laws_toTokenS.l0]) ?_
    exact ev_neg (by omega) (ev_some rfl)
  · intro s i x r hI hi hx ih
    refine Ev.step (fun k => by rw [laws_toTokenS.l0]) ?_
    refine ev_pos (by omega) (ev_pos (by omega) ?_)
    rw [wrap_succ (by omega), show rd_T23 l (i : Int) = x from getD_at hx]
    refine Ev.bind (ev_c (show laws_toToken.f x.f0 x.f1 = some (x.f0, x.f1) from rfl)) ?_
    exact ev_pos (by omega) ih

theorem impl_JoinTokens_ev (l : List (S26)) (hs : l.length ≤ 1048576) (ht : (l.map fun x => x.f1.size).sum ≤ 1048576) : Ev (fun k => impl_JoinTokens.f k l) (joinS (l.map (·.f1)) spB) := by
  unfold impl_JoinTokens.f
  have h := ev_listI0 (fun k s i => impl_JoinTokens.l0 k s l (l.length : Int) i) l (fun s i => s = (l.take i).map (·.f1)) (fun s i r => joinS (s ++ r.map (·.f1)) spB) ([] : List ByteArray) (by simp) ?_ ?_
  · exact h
  · intro s hI
    rw [List.take_length] at hI
    subst hI
    refine Ev.step (fun k => by rw [impl_JoinTokens.l0]) ?_; refine ev_neg (by omega) ?_
    rw [List.map_nil, List.append_nil]
    have sz : (joinS (l.map (·.f1)) spB).size ≤ 2097152 := by
      rw [← restJ_eq]
      have := restJ_size (l.map (·.f1)) ⟨#[]⟩ 0
      rw [List.map_map, List.length_map] at this
      have e : (l.map (ByteArray.size ∘ fun x => x.f1)).sum = (l.map fun x => x.f1.size).sum := rfl
      rw [e] at this
      have z : (⟨#[]⟩ : ByteArray).size = 0 := rfl
      omega
    refine Ev.bind (ev_c (?_ : strings_Join.f (l.map (·.f1)) spB = some (joinS (l.map (·.f1)) spB))) (ev_some rfl)
    unfold strings_Join.f
    rw [if_pos ⟨by rw [List.length_map]; omega, by omega⟩]
  · intro s i x r hI hi hx hd ih
    subst hI
    refine Ev.step (fun k => by rw [impl_JoinTokens.l0]) ?_; refine ev_pos (by omega) (ev_pos (by omega) (ev_pos (by omega) (ev_pos ?_ ?_)))
    · rw [List.length_map, List.length_take]; omega
    · rw [wrap_succ (by omega), show rd_T26 l (i : Int) = x from getD_at hx]
      have h := ih ((l.take i).map (·.f1) ++ [x.f1]) (by rw [List.take_add_one, hx]; simp)
      simpa using h

theorem laws_eqTokenS_self (l : List (S26)) (hs : l.length ≤ 281474976710656) : Ev (fun k => laws_eqTokenS.f k l l) true := by
  unfold laws_eqTokenS.f
  refine ev_pos rfl ?_
  refine ev_pass (fun k i => laws_eqTokenS.l0 k l l i) l true ?_ ?_
  · refine Ev.step (fun k => by rw [laws_eqTokenS.l0]) ?_
    exact ev_neg (by omega) (ev_some rfl)
  · intro i x hi hx ih
    refine Ev.step (fun k => by rw [laws_eqTokenS.l0]) ?_
    refine ev_pos (by omega) (ev_pos (by omega) (ev_pos (by omega) ?_))
    rw [wrap_succ (by omega)]
    refine Ev.bind (ev_c (show laws_eqToken.f _ _ _ _ = some true from by unfold laws_eqToken.f; simp)) ?_
    exact ev_pos rfl ih

theorem FnExactJoinTokens : ∀ (l0 : List (S23)), (l0.length * 24 ≤ 140737488351232 ∧ ∀ e0 ∈ l0, ((-9223372036854775808 ≤ e0.f0 ∧ e0.f0 ≤ 9223372036854775807) ∧ e0.f1.size ≤ 140737488351232)) → ∃ k, laws_FnExactJoinTokens.f k l0 = some true := by
  intro l hl
  refine Ev.rounds ?_
  unfold laws_FnExactJoinTokens.f
  refine Ev.bind (laws_szTokenS_ev l _ (by omega) (by omega) (by omega) (fun x hx => (hl.2 x hx).2)) (ev_ite (fun _ => ev_some rfl) (fun h => ?_))
  rw [szL_sum _ _ (by omega)] at h
  obtain ⟨c, _⟩ := szC_of h
  rw [List.sum_cons] at c
  have tt := laws_toTokenS_ev l (by omega)
  have n1 : (l.map cToken).length ≤ 1048576 := by rw [List.length_map]; omega
  have n2 : ((l.map cToken).map fun x => x.f1.size).sum ≤ 1048576 := by
    rw [List.map_map]
    have e : (l.map ((fun x : S26 => x.f1.size) ∘ cToken)).sum = (l.map fun x => x.f1.size).sum := rfl
    rw [e]; omega
  refine Ev.bind tt (Ev.bind (spec_JoinTokens_ev _ n1 n2) ?_)
  refine Ev.bind tt (Ev.bind (impl_JoinTokens_ev _ n1 n2) (ev_pos rfl ?_))
  exact Ev.bind tt (Ev.bind (laws_eqTokenS_self _ (by omega)) (ev_pos rfl (ev_some rfl)))

end Go.Proofs.Ythpiinnmmdaloaa.Pure
