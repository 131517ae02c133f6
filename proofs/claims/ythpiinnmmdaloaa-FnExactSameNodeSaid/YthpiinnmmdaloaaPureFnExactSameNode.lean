/- The law FnExactSameNode in plain words: what the printed functions answer, and that the two agree. Its conditions: the bounds that memory sets. -/
import Derived.Test.YthpiinnmmdaloaaPFnExactSameNodex4
import Derived.Test.YthpiinnmmdaloaaKit
namespace Go.Proofs.Ythpiinnmmdaloaa.Pure
open Go.RowKit Go.Proofs.Ythpiinnmmdaloaa.PFnExactSameNode Go.Proofs.YthpiinnmmdaloaaW.PrintWords Go.Proofs.YthpiinnmmdaloaaW.PrintLast Go.Proofs.YthpiinnmmdaloaaW.PrintMore Go.Proofs.Ythpiinnmmdaloaa.Kit

theorem laws_szStringS_ev (l : List ByteArray) (left : Int) (h0 : 0 ≤ left) (h1 : left ≤ 1048576) (hs : l.length ≤ 140737488351232) (he : ∀ x ∈ l, x.size ≤ 140737488351232) :
    Ev (fun k => laws_szStringS.f k l left) (szL left (l.length :: l.map ByteArray.size)) := by
  unfold laws_szStringS.f
  rw [wrap_id (by omega) (by omega)]
  simp only [szL]
  refine ev_ite (fun h => by rw [if_pos h]; exact ev_some rfl) (fun h => ?_)
  rw [if_neg h]
  refine ev_listI0 (fun k s i => laws_szStringS.l0 k l s i) l (fun s _ => 0 ≤ s ∧ s ≤ 1048576) (fun s _ r => szL s (r.map ByteArray.size)) (left - l.length) (by omega) ?_ ?_
  · intro s hI
    refine Ev.step (fun k => by rw [laws_szStringS.l0]) ?_
    exact ev_neg (by omega) (ev_some rfl)
  · intro s i x r hI hi hx hd ih
    refine Ev.step (fun k => by rw [laws_szStringS.l0]) ?_
    refine ev_pos (by omega) (ev_pos (by omega) ?_)
    have hm := he x (List.mem_of_getElem? hx)
    rw [wrap_succ (by omega), show rdOf ByteArray.empty l (i : Int) = x from getD_at hx, wrap_id (by omega) (by omega)]
    simp only [szL, List.map_cons]
    by_cases c : s - x.size < 0
    · simp only [if_pos c]; exact ev_some rfl
    · simp only [if_neg c]; exact ih _ (by omega)

theorem laws_szIntS_eq (l : List Int) (left : Int) (h0 : 0 ≤ left) (h1 : left ≤ 1048576) (hs : l.length ≤ 140737488351232) : laws_szIntS.f l left = some (szL left [l.length]) := by
  unfold laws_szIntS.f
  simp only [szL]
  rw [wrap_id (by omega) (by omega)]
  split <;> rfl

def nodeAll (ks vs : List ByteArray) (ids : List Int) : Nat := (ks.length + (ks.map ByteArray.size).sum) + (vs.length + (vs.map ByteArray.size).sum) + ids.length
theorem laws_szNode_ev (b : Bool) (ks vs : List ByteArray) (ids : List Int) (left : Int) (h0 : 0 ≤ left) (h1 : left ≤ 1048576)
    (hk : ks.length * 16 ≤ 140737488351232 ∧ ∀ x ∈ ks, x.size ≤ 140737488351232) (hv : vs.length * 16 ≤ 140737488351232 ∧ ∀ x ∈ vs, x.size ≤ 140737488351232) (hi : ids.length * 8 ≤ 140737488351232) :
    Ev (fun k => laws_szNode.f k b ks vs ids left) (szC left (nodeAll ks vs ids)) := by
  unfold laws_szNode.f
  have e1 := laws_szStringS_ev ks left h0 h1 (by omega) hk.2
  rw [szL_sum _ _ h0, List.sum_cons] at e1
  refine Ev.bind e1 ?_
  have b1 := szC_bd (n := ks.length + (ks.map ByteArray.size).sum) h0
  refine ev_ite (fun c => ev_some ?_) (fun c => ?_)
  · have := szC_bd (n := nodeAll ks vs ids) h0
    unfold szC at c ⊢
    split at c
    · omega
    · rw [if_neg (by unfold nodeAll; omega)]
  · obtain ⟨c1, c2⟩ := szC_of c
    have e2 := laws_szStringS_ev vs (szC left (ks.length + (ks.map ByteArray.size).sum)) (by omega) (by omega) (by omega) hv.2
    rw [szL_sum _ _ (by omega), List.sum_cons] at e2
    refine Ev.bind e2 ?_
    refine ev_ite (fun d => ev_some ?_) (fun d => ?_)
    · rw [c2] at d
      unfold szC at d ⊢
      split at d
      · omega
      · rw [if_neg (by unfold nodeAll; omega)]
    · obtain ⟨d1, d2⟩ := szC_of d
      refine Ev.bind (ev_c (laws_szIntS_eq ids _ (by omega) (by omega) (by omega))) ?_
      rw [szL_sum _ _ (by omega)]
      have e : szC (szC (szC left (ks.length + (ks.map ByteArray.size).sum)) (vs.length + (vs.map ByteArray.size).sum)) [ids.length].sum = szC left (nodeAll ks vs ids) := by
        rw [d2, c2, show [ids.length].sum = ids.length from by simp]
        unfold szC nodeAll
        by_cases f : (ids.length : Int) ≤ left - ((ks.length + (ks.map ByteArray.size).sum : Nat) : Int) - ((vs.length + (vs.map ByteArray.size).sum : Nat) : Int)
        · rw [if_pos f, if_pos (by omega)]; omega
        · rw [if_neg f, if_neg (by omega)]
      rw [e]
      refine ev_ite (fun f => ev_some ?_) (fun f => ev_some rfl)
      have := szC_bd (n := nodeAll ks vs ids) h0
      omega

theorem laws_toStringS_ev (l : List ByteArray) (hs : l.length ≤ 1048576) : Ev (fun k => laws_toStringS.f k l) l := by
  unfold laws_toStringS.f
  refine ev_pos (by omega) (ev_pos (by omega) ?_)
  refine ev_eq (ev_fill (fun k s i => laws_toStringS.l0 k l s i) l id ?_ ?_ _ (by simp)) (List.map_id l)
  · intro s hI
    refine Ev.step (fun k => by rw [laws_toStringS.l0]) ?_
    exact ev_neg (by omega) (ev_some rfl)
  · intro s i x r hI hi hx ih
    refine Ev.step (fun k => by rw [laws_toStringS.l0]) ?_
    refine ev_pos (by omega) (ev_pos (by omega) (ev_pos (by omega) ?_))
    rw [wrap_succ (by omega), show rdOf ByteArray.empty l (i : Int) = x from getD_at hx]
    exact ih

theorem laws_toIntS_ev (l : List Int) (hs : l.length ≤ 1048576) : Ev (fun k => laws_toIntS.f k l) l := by
  unfold laws_toIntS.f
  refine ev_pos (by omega) (ev_pos (by omega) ?_)
  refine ev_eq (ev_fill (fun k s i => laws_toIntS.l0 k l s i) l id ?_ ?_ _ (by simp)) (List.map_id l)
  · intro s hI
    refine Ev.step (fun k => by rw [laws_toIntS.l0]) ?_
    exact ev_neg (by omega) (ev_some rfl)
  · intro s i x r hI hi hx ih
    refine Ev.step (fun k => by rw [laws_toIntS.l0]) ?_
    refine ev_pos (by omega) (ev_pos (by omega) (ev_pos (by omega) ?_))
    rw [wrap_succ (by omega), show rd l (i : Int) = x from getD_at hx]
    exact ih

theorem laws_toNode_ev (b : Bool) (ks vs : List ByteArray) (ids : List Int) (hk : ks.length ≤ 1048576) (hv : vs.length ≤ 1048576) (hi : ids.length ≤ 1048576) : Ev (fun k => laws_toNode.f k b ks vs ids) (b, ks, vs, ids) := by
  unfold laws_toNode.f
  exact Ev.bind (laws_toStringS_ev ks hk) (Ev.bind (laws_toStringS_ev vs hv) (Ev.bind (laws_toIntS_ev ids hi) (ev_some rfl)))

theorem laws_eqStringS_self (l : List ByteArray) (hs : l.length ≤ 281474976710656) : Ev (fun k => laws_eqStringS.f k l l) true := by
  unfold laws_eqStringS.f
  refine ev_pos rfl ?_
  refine ev_pass (fun k i => laws_eqStringS.l0 k l l i) l true ?_ ?_
  · refine Ev.step (fun k => by rw [laws_eqStringS.l0]) ?_
    exact ev_neg (by omega) (ev_some rfl)
  · intro i x hi hx ih
    refine Ev.step (fun k => by rw [laws_eqStringS.l0]) ?_
    refine ev_pos (by omega) (ev_pos (by omega) (ev_pos (by omega) (ev_pos rfl ?_)))
    rw [wrap_succ (by omega)]
    exact ih

theorem laws_eqIntS_self (l : List Int) (hs : l.length ≤ 281474976710656) : Ev (fun k => laws_eqIntS.f k l l) true := by
  unfold laws_eqIntS.f
  refine ev_pos rfl ?_
  refine ev_pass (fun k i => laws_eqIntS.l0 k l l i) l true ?_ ?_
  · refine Ev.step (fun k => by rw [laws_eqIntS.l0]) ?_
    exact ev_neg (by omega) (ev_some rfl)
  · intro i x hi hx ih
    refine Ev.step (fun k => by rw [laws_eqIntS.l0]) ?_
    refine ev_pos (by omega) (ev_pos (by omega) (ev_pos (by omega) (ev_pos rfl ?_)))
    rw [wrap_succ (by omega)]
    exact ih

theorem laws_eqNode_self (b : Bool) (ks vs : List ByteArray) (ids : List Int) (hk : ks.length ≤ 281474976710656) (hv : vs.length ≤ 281474976710656) (hi : ids.length ≤ 281474976710656) : Ev (fun k => laws_eqNode.f k b ks vs ids b ks vs ids) true := by
  unfold laws_eqNode.f
  refine ev_neg (by simp) ?_
  refine Ev.bind (laws_eqStringS_self ks hk) (ev_pos rfl ?_)
  refine Ev.bind (laws_eqStringS_self vs hv) (ev_pos rfl ?_)
  exact Ev.bind (laws_eqIntS_self ids hi) (ev_pos rfl (ev_some rfl))

/-- Are two rows the same, element by element? -/
def sameT : List ByteArray → List ByteArray → Bool
  | x :: r, y :: s => if x.toList = y.toList then sameT r s else false
  | _, _ => true
def sameI : List Int → List Int → Bool
  | x :: r, y :: s => if x = y then sameI r s else false
  | _, _ => true
def sameTs (a b : List ByteArray) : Bool := if (a.length : Int) = (b.length : Int) then sameT a b else false
def sameIs (a b : List Int) : Bool := if (a.length : Int) = (b.length : Int) then sameI a b else false
def sameN (b : Bool) (ks vs : List ByteArray) (ids : List Int) (b2 : Bool) (ks2 vs2 : List ByteArray) (ids2 : List Int) : Bool :=
  if (b == b2) = true then (if sameTs ks ks2 = true then (if sameTs vs vs2 = true then sameIs ids ids2 else false) else false) else false

theorem spec_l14SameTexts_ev (a b : List ByteArray) (hl : a.length ≤ 1048576) : Ev (fun k => spec_l14SameTexts.f k a b) (sameTs a b) := by
  unfold spec_l14SameTexts.f sameTs
  refine ev_ite (fun h => ?_) (fun h => by rw [if_neg h]; exact ev_some rfl)
  rw [if_pos h]
  have g := ev_list0 (fun k i => spec_l14SameTexts.l0 k a b i) a (fun i r => sameT r (b.drop i)) ?_ ?_
  · rw [List.drop_zero] at g; exact g
  · refine Ev.step (fun k => by rw [spec_l14SameTexts.l0]) (ev_neg (by omega) (ev_some ?_))
    rw [sameT]
    simp
  · intro i x r hi hx hd ih
    have hb : i < b.length := by omega
    have hy : b[i]? = some b[i] := List.getElem?_eq_getElem hb
    rw [List.drop_eq_getElem_cons hb, sameT]
    generalize b[i] = y at hy
    refine Ev.step (fun k => by rw [spec_l14SameTexts.l0]) (ev_pos (by omega) (ev_pos (by omega) (ev_pos (by omega) ?_)))
    rw [wrap_succ (by omega), show rdOf ByteArray.empty a (i : Int) = x from getD_at hx, show rdOf ByteArray.empty b (i : Int) = y from getD_at hy]
    refine ev_ite (fun h => by rw [if_pos h]; exact ih) (fun h => by rw [if_neg h]; exact ev_some rfl)

theorem spec_l14SameInts_ev (a b : List Int) (hl : a.length ≤ 1048576) : Ev (fun k => spec_l14SameInts.f k a b) (sameIs a b) := by
  unfold spec_l14SameInts.f sameIs
  refine ev_ite (fun h => ?_) (fun h => by rw [if_neg h]; exact ev_some rfl)
  rw [if_pos h]
  have g := ev_list0 (fun k i => spec_l14SameInts.l0 k a b i) a (fun i r => sameI r (b.drop i)) ?_ ?_
  · rw [List.drop_zero] at g; exact g
  · refine Ev.step (fun k => by rw [spec_l14SameInts.l0]) (ev_neg (by omega) (ev_some ?_))
    rw [sameI]
    simp
  · intro i x r hi hx hd ih
    have hb : i < b.length := by omega
    have hy : b[i]? = some b[i] := List.getElem?_eq_getElem hb
    rw [List.drop_eq_getElem_cons hb, sameI]
    generalize b[i] = y at hy
    refine Ev.step (fun k => by rw [spec_l14SameInts.l0]) (ev_pos (by omega) (ev_pos (by omega) (ev_pos (by omega) ?_)))
    rw [wrap_succ (by omega), show rd a (i : Int) = x from getD_at hx, show rd b (i : Int) = y from getD_at hy]
    refine ev_ite (fun h => by rw [if_pos h]; exact ih) (fun h => by rw [if_neg h]; exact ev_some rfl)

theorem spec_SameNode_ev (b : Bool) (ks vs : List ByteArray) (ids : List Int) (b2 : Bool) (ks2 vs2 : List ByteArray) (ids2 : List Int) (h1 : ks.length ≤ 1048576) (h2 : vs.length ≤ 1048576) (h3 : ids.length ≤ 1048576) : Ev (fun k => spec_SameNode.f k b ks vs ids b2 ks2 vs2 ids2) (sameN b ks vs ids b2 ks2 vs2 ids2) := by
  unfold spec_SameNode.f sameN
  refine ev_ite (fun h => ?_) (fun h => by rw [if_neg h]; exact ev_some rfl)
  rw [if_pos h]
  refine Ev.bind (spec_l14SameTexts_ev ks ks2 h1) (ev_ite (fun g => ?_) (fun g => by rw [if_neg g]; exact ev_some rfl))
  rw [if_pos g]
  refine Ev.bind (spec_l14SameTexts_ev vs vs2 h2) (ev_ite (fun g2 => ?_) (fun g2 => by rw [if_neg g2]; exact ev_some rfl))
  rw [if_pos g2]
  exact Ev.bind (spec_l14SameInts_ev ids ids2 h3) (ev_some rfl)

theorem impl_sameTexts_ev (a b : List ByteArray) (hl : a.length ≤ 1048576) : Ev (fun k => impl_sameTexts.f k a b) (sameTs a b) := by
  unfold impl_sameTexts.f sameTs
  refine ev_ite (fun h => ?_) (fun h => by rw [if_neg h]; exact ev_some rfl)
  rw [if_pos h]
  have g := ev_list0 (fun k i => impl_sameTexts.l0 k a b (a.length : Int) i) a (fun i r => sameT r (b.drop i)) ?_ ?_
  · rw [List.drop_zero] at g; exact g
  · refine Ev.step (fun k => by rw [impl_sameTexts.l0]) (ev_neg (by omega) (ev_some ?_))
    rw [sameT]
    simp
  · intro i x r hi hx hd ih
    have hb : i < b.length := by omega
    have hy : b[i]? = some b[i] := List.getElem?_eq_getElem hb
    rw [List.drop_eq_getElem_cons hb, sameT]
    generalize b[i] = y at hy
    refine Ev.step (fun k => by rw [impl_sameTexts.l0]) (ev_pos (by omega) (ev_pos (by omega) (ev_pos (by omega) (ev_pos (by omega) ?_))))
    rw [wrap_succ (by omega), show rdOf ByteArray.empty a (i : Int) = x from getD_at hx, show rdOf ByteArray.empty b (i : Int) = y from getD_at hy]
    refine ev_ite (fun h => by rw [if_pos h]; exact ih) (fun h => by rw [if_neg h]; exact ev_some rfl)

theorem impl_sameInts_ev (a b : List Int) (hl : a.length ≤ 1048576) : Ev (fun k => impl_sameInts.f k a b) (sameIs a b) := by
  unfold impl_sameInts.f sameIs
  refine ev_ite (fun h => ?_) (fun h => by rw [if_neg h]; exact ev_some rfl)
  rw [if_pos h]
  have g := ev_list0 (fun k i => impl_sameInts.l0 k a b (a.length : Int) i) a (fun i r => sameI r (b.drop i)) ?_ ?_
  · rw [List.drop_zero] at g; exact g
  · refine Ev.step (fun k => by rw [impl_sameInts.l0]) (ev_neg (by omega) (ev_some ?_))
    rw [sameI]
    simp
  · intro i x r hi hx hd ih
    have hb : i < b.length := by omega
    have hy : b[i]? = some b[i] := List.getElem?_eq_getElem hb
    rw [List.drop_eq_getElem_cons hb, sameI]
    generalize b[i] = y at hy
    refine Ev.step (fun k => by rw [impl_sameInts.l0]) (ev_pos (by omega) (ev_pos (by omega) (ev_pos (by omega) (ev_pos (by omega) ?_))))
    rw [wrap_succ (by omega), show rd a (i : Int) = x from getD_at hx, show rd b (i : Int) = y from getD_at hy]
    refine ev_ite (fun h => by rw [if_pos h]; exact ih) (fun h => by rw [if_neg h]; exact ev_some rfl)

theorem impl_SameNode_ev (b : Bool) (ks vs : List ByteArray) (ids : List Int) (b2 : Bool) (ks2 vs2 : List ByteArray) (ids2 : List Int) (h1 : ks.length ≤ 1048576) (h2 : vs.length ≤ 1048576) (h3 : ids.length ≤ 1048576) : Ev (fun k => impl_SameNode.f k b ks vs ids b2 ks2 vs2 ids2) (sameN b ks vs ids b2 ks2 vs2 ids2) := by
  unfold impl_SameNode.f sameN
  refine ev_ite (fun h => ?_) (fun h => by rw [if_neg h]; exact ev_some rfl)
  rw [if_pos h]
  refine Ev.bind (impl_sameTexts_ev ks ks2 h1) (ev_ite (fun g => ?_) (fun g => by rw [if_neg g]; exact ev_some rfl))
  rw [if_pos g]
  refine Ev.bind (impl_sameTexts_ev vs vs2 h2) (ev_ite (fun g2 => ?_) (fun g2 => by rw [if_neg g2]; exact ev_some rfl))
  rw [if_pos g2]
  exact Ev.bind (impl_sameInts_ev ids ids2 h3) (ev_some rfl)

theorem FnExactSameNode : ∀ (a0_0 : Bool) (l0_1 : List ByteArray) (l0_2 : List ByteArray) (l0_3 : List Int) (a1_0 : Bool) (l1_1 : List ByteArray) (l1_2 : List ByteArray) (l1_3 : List Int), (l0_1.length * 16 ≤ 140737488351232 ∧ ∀ e0 ∈ l0_1, e0.size ≤ 140737488351232) → (l0_2.length * 16 ≤ 140737488351232 ∧ ∀ e0 ∈ l0_2, e0.size ≤ 140737488351232) → (l0_3.length * 8 ≤ 140737488351232 ∧ ∀ e0 ∈ l0_3, (-9223372036854775808 ≤ e0 ∧ e0 ≤ 9223372036854775807)) → (l1_1.length * 16 ≤ 140737488351232 ∧ ∀ e0 ∈ l1_1, e0.size ≤ 140737488351232) → (l1_2.length * 16 ≤ 140737488351232 ∧ ∀ e0 ∈ l1_2, e0.size ≤ 140737488351232) → (l1_3.length * 8 ≤ 140737488351232 ∧ ∀ e0 ∈ l1_3, (-9223372036854775808 ≤ e0 ∧ e0 ≤ 9223372036854775807)) → ∃ k, laws_FnExactSameNode.f k a0_0 l0_1 l0_2 l0_3 a1_0 l1_1 l1_2 l1_3 = some true := by
  intro b ks vs ids b2 ks2 vs2 ids2 hk hv hi hk2 hv2 hi2
  refine Ev.rounds ?_
  unfold laws_FnExactSameNode.f
  refine Ev.bind (laws_szNode_ev b ks vs ids _ (by omega) (by omega) hk hv (by omega)) ?_
  refine ev_ite (fun _ => ev_some rfl) (fun h => ?_)
  obtain ⟨c, e⟩ := szC_of h
  have ca : nodeAll ks vs ids ≤ 1048576 := by omega
  refine Ev.bind (laws_szNode_ev b2 ks2 vs2 ids2 _ (by omega) (by omega) hk2 hv2 (by omega)) ?_
  refine ev_ite (fun _ => ev_some rfl) (fun h2 => ?_)
  obtain ⟨c2, e2⟩ := szC_of h2
  have ca2 : nodeAll ks2 vs2 ids2 ≤ 1048576 := by omega
  unfold nodeAll at ca ca2
  have t := laws_toNode_ev b ks vs ids (by omega) (by omega) (by omega)
  have t2 := laws_toNode_ev b2 ks2 vs2 ids2 (by omega) (by omega) (by omega)
  refine Ev.bind t (Ev.bind t2 (Ev.bind (spec_SameNode_ev b ks vs ids b2 ks2 vs2 ids2 (by omega) (by omega) (by omega)) ?_))
  refine Ev.bind t (Ev.bind t2 (Ev.bind (impl_SameNode_ev b ks vs ids b2 ks2 vs2 ids2 (by omega) (by omega) (by omega)) (ev_neg (by simp) ?_)))
  refine Ev.bind t (Ev.bind (laws_eqNode_self b ks vs ids (by omega) (by omega) (by omega)) (ev_pos rfl ?_))
  exact Ev.bind t2 (Ev.bind (laws_eqNode_self b2 ks2 vs2 ids2 (by omega) (by omega) (by omega)) (ev_pos rfl (ev_some rfl)))

end Go.Proofs.Ythpiinnmmdaloaa.Pure
