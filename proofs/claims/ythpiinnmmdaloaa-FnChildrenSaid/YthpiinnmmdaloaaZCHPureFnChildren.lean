/- The law FnChildren in plain words: what the printed functions answer, and that the two agree. Its conditions: the bounds that memory sets. -/
import Derived.Test.YthpiinnmmdaloaaZCHPFnChildrenx11
import Derived.Test.YthpiinnmmdaloaaZCHKit
import Derived.Test.YthpiinnmmdaloaaZCHKitE
import Derived.Test.YthpiinnmmdaloaaZCHKitB
namespace Go.Proofs.Ythpiinnmmdaloaa.Pure
open Go.RowKit Go.Proofs.Ythpiinnmmdaloaa.PFnChildren Go.Proofs.YthpiinnmmdaloaaW.PrintWords Go.Proofs.YthpiinnmmdaloaaW.PrintLast Go.Proofs.YthpiinnmmdaloaaW.PrintMore Go.Proofs.Ythpiinnmmdaloaa.Kit Go.Proofs.Ythpiinnmmdaloaa.KitE Go.Proofs.Ythpiinnmmdaloaa.KitB

def childM (key : ByteArray) : Int → List ByteArray → Int
  | n, [] => n
  | n, x :: r => if Op.bytesLess key.toList x.toList = true then childM key n r else childM key (n + 1) r
theorem spec_ChildOf_ev (b : Bool) (ks vs : List ByteArray) (ids : List Int) (key : ByteArray) (hk : ks.length ≤ 1048576) : Ev (fun k => spec_ChildOf.f k b ks vs ids key) (childM key 0 ks) := by
  refine ev_listI0 (fun k n i => spec_ChildOf.l0 k key n i b ks vs ids) ks (fun n i => 0 ≤ n ∧ n ≤ i) (fun n _ r => childM key n r) 0 (by omega) ?_ ?_
  · intro n hI
    refine Ev.step (fun k => by rw [spec_ChildOf.l0]) ?_
    exact ev_neg (by omega) (ev_some rfl)
  · intro n i x r hI hi hx hd ih
    refine Ev.step (fun k => by rw [spec_ChildOf.l0]) ?_
    refine ev_pos (by omega) (ev_pos (by omega) ?_)
    rw [wrap_succ (by omega), show rdOf ByteArray.empty ks (i : Int) = x from getD_at hx, wrap_id (by omega) (by omega)]
    refine ev_ite (fun h => ?_) (fun h => ?_)
    · simp only [childM]; rw [if_pos h]; exact ih n (by omega)
    · simp only [childM]; rw [if_neg h]; exact ih (n + 1) (by omega)

theorem impl_ChildOf_ev (b : Bool) (ks vs : List ByteArray) (ids : List Int) (key : ByteArray) (hk : ks.length ≤ 1048576) : Ev (fun k => impl_ChildOf.f k b ks vs ids key) (childM key 0 ks) := by
  refine ev_listI0 (fun k n i => impl_ChildOf.l0 k key n ks (ks.length : Int) i) ks (fun n i => 0 ≤ n ∧ n ≤ i) (fun n _ r => childM key n r) 0 (by omega) ?_ ?_
  · intro n hI
    refine Ev.step (fun k => by rw [impl_ChildOf.l0]) ?_
    exact ev_neg (by omega) (ev_some rfl)
  · intro n i x r hI hi hx hd ih
    refine Ev.step (fun k => by rw [impl_ChildOf.l0]) ?_
    refine ev_pos (by omega) (ev_pos (by omega) (ev_pos (by omega) ?_))
    rw [wrap_succ (by omega), show rdOf ByteArray.empty ks (i : Int) = x from getD_at hx, wrap_id (by omega) (by omega)]
    refine ev_ite (fun h => ?_) (fun h => ?_)
    · simp only [childM]; rw [if_pos h]; exact ih n (by omega)
    · simp only [childM]; rw [if_neg h]; exact ih (n + 1) (by omega)

/-- Are two rows the same, element by element? -/
def sameT : List ByteArray → List ByteArray → Bool
  | x :: r, y :: s => if x.toList = y.toList then sameT r s else false
  | _, _ => true
def sameI : List Int → List Int → Bool
  | x :: r, y :: s => if x = y then sameI r s else false
  | _, _ => true
def sameTs (a b : List ByteArray) : Bool := if (a.length : Int) = (b.length : Int) then sameT a b else false
def sameIs (a b : List Int) : Bool := if (a.length : Int) = (b.length : Int) then sameI a b else false
def sameN (b : Bool) (ks vs : List ByteArray) (ids : List Int) (b2 : Bool) (ks2 vs2 : List ByteArray) (ids2 : List Int) : Bool :=
  if (b == b2) = true then (if sameTs ks ks2 = true then (if sameTs vs vs2 = true then sameIs ids ids2 else false) else false) else false

theorem spec_l14SameTexts_ev (a b : List ByteArray) (hl : a.length ≤ 1048576) : Ev (fun k => spec_l14SameTexts.f k a b) (sameTs a b) := by
  unfold spec_l14SameTexts.f sameTs
  refine ev_ite (fun h => ?_) (fun h => by rw [if_neg h]; exact ev_some rfl)
  rw [if_pos h]
  have g := ev_list0 (fun k i => spec_l14SameTexts.l0 k a b i) a (fun i r => sameT r (b.drop i)) ?_ ?_
  · rw [List.drop_zero] at g; exact g
  · refine Ev.step (fun k => by rw [spec_l14SameTexts.l0]) (ev_neg (by omega) (ev_some ?_))
    rw [sameT]
    simp
  · intro i x r hi hx hd ih
    have hb : i < b.length := by omega
    have hy : b[i]? = some b[i] := List.getElem?_eq_getElem hb
    rw [List.drop_eq_getElem_cons hb, sameT]
    generalize b[i] = y at hy
    refine Ev.step (fun k => by rw [spec_l14SameTexts.l0]) (ev_pos (by omega) (ev_pos (by omega) (ev_pos (by omega) ?_)))
    rw [wrap_succ (by omega), show rdOf ByteArray.empty a (i : Int) = x from getD_at hx, show rdOf ByteArray.empty b (i : Int) = y from getD_at hy]
    refine ev_ite (fun h => by rw [if_pos h]; exact ih) (fun h => by rw [if_neg h]; exact ev_some rfl)

theorem spec_l14SameInts_ev (a b : List Int) (hl : a.length ≤ 1048576) : Ev (fun k => spec_l14SameInts.f k a b) (sameIs a b) := by
  unfold spec_l14SameInts.f sameIs
  refine ev_ite (fun h => ?_) (fun h => by rw [if_neg h]; exact ev_some rfl)
  rw [if_pos h]
  have g := ev_list0 (fun k i => spec_l14SameInts.l0 k a b i) a (fun i r => sameI r (b.drop i)) ?_ ?_
  · rw [List.drop_zero] at g; exact g
  · refine Ev.step (fun k => by rw [spec_l14SameInts.l0]) (ev_neg (by omega) (ev_some ?_))
    rw [sameI]
    simp
  · intro i x r hi hx hd ih
    have hb : i < b.length := by omega
    have hy : b[i]? = some b[i] := List.getElem?_eq_getElem hb
    rw [List.drop_eq_getElem_cons hb, sameI]
    generalize b[i] = y at hy
    refine Ev.step (fun k => by rw [spec_l14SameInts.l0]) (ev_pos (by omega) (ev_pos (by omega) (ev_pos (by omega) ?_)))
    rw [wrap_succ (by omega), show rd a (i : Int) = x from getD_at hx, show rd b (i : Int) = y from getD_at hy]
    refine ev_ite (fun h => by rw [if_pos h]; exact ih) (fun h => by rw [if_neg h]; exact ev_some rfl)

theorem spec_SameNode_ev (b : Bool) (ks vs : List ByteArray) (ids : List Int) (b2 : Bool) (ks2 vs2 : List ByteArray) (ids2 : List Int) (h1 : ks.length ≤ 1048576) (h2 : vs.length ≤ 1048576) (h3 : ids.length ≤ 1048576) : Ev (fun k => spec_SameNode.f k b ks vs ids b2 ks2 vs2 ids2) (sameN b ks vs ids b2 ks2 vs2 ids2) := by
  unfold spec_SameNode.f sameN
  refine ev_ite (fun h => ?_) (fun h => by rw [if_neg h]; exact ev_some rfl)
  rw [if_pos h]
  refine Ev.bind (spec_l14SameTexts_ev ks ks2 h1) (ev_ite (fun g => ?_) (fun g => by rw [if_neg g]; exact ev_some rfl))
  rw [if_pos g]
  refine Ev.bind (spec_l14SameTexts_ev vs vs2 h2) (ev_ite (fun g2 => ?_) (fun g2 => by rw [if_neg g2]; exact ev_some rfl))
  rw [if_pos g2]
  exact Ev.bind (spec_l14SameInts_ev ids ids2 h3) (ev_some rfl)

theorem impl_sameTexts_ev (a b : List ByteArray) (hl : a.length ≤ 1048576) : Ev (fun k => impl_sameTexts.f k a b) (sameTs a b) := by
  unfold impl_sameTexts.f sameTs
  refine ev_ite (fun h => ?_) (fun h => by rw [if_neg h]; exact ev_some rfl)
  rw [if_pos h]
  have g := ev_list0 (fun k i => impl_sameTexts.l0 k a b (a.length : Int) i) a (fun i r => sameT r (b.drop i)) ?_ ?_
  · rw [List.drop_zero] at g; exact g
  · refine Ev.step (fun k => by rw [impl_sameTexts.l0]) (ev_neg (by omega) (ev_some ?_))
    rw [sameT]
    simp
  · intro i x r hi hx hd ih
    have hb : i < b.length := by omega
    have hy : b[i]? = some b[i] := List.getElem?_eq_getElem hb
    rw [List.drop_eq_getElem_cons hb, sameT]
    generalize b[i] = y at hy
    refine Ev.step (fun k => by rw [impl_sameTexts.l0]) (ev_pos (by omega) (ev_pos (by omega) (ev_pos (by omega) (ev_pos (by omega) ?_))))
    rw [wrap_succ (by omega), show rdOf ByteArray.empty a (i : Int) = x from getD_at hx, show rdOf ByteArray.empty b (i : Int) = y from getD_at hy]
    refine ev_ite (fun h => by rw [if_pos h]; exact ih) (fun h => by rw [if_neg h]; exact ev_some rfl)

theorem impl_sameInts_ev (a b : List Int) (hl : a.length ≤ 1048576) : Ev (fun k => impl_sameInts.f k a b) (sameIs a b) := by
  unfold impl_sameInts.f sameIs
  refine ev_ite (fun h => ?_) (fun h => by rw [if_neg h]; exact ev_some rfl)
  rw [if_pos h]
  have g := ev_list0 (fun k i => impl_sameInts.l0 k a b (a.length : Int) i) a (fun i r => sameI r (b.drop i)) ?_ ?_
  · rw [List.drop_zero] at g; exact g
  · refine Ev.step (fun k => by rw [impl_sameInts.l0]) (ev_neg (by omega) (ev_some ?_))
    rw [sameI]
    simp
  · intro i x r hi hx hd ih
    have hb : i < b.length := by omega
    have hy : b[i]? = some b[i] := List.getElem?_eq_getElem hb
    rw [List.drop_eq_getElem_cons hb, sameI]
    generalize b[i] = y at hy
    refine Ev.step (fun k => by rw [impl_sameInts.l0]) (ev_pos (by omega) (ev_pos (by omega) (ev_pos (by omega) (ev_pos (by omega) ?_))))
    rw [wrap_succ (by omega), show rd a (i : Int) = x from getD_at hx, show rd b (i : Int) = y from getD_at hy]
    refine ev_ite (fun h => by rw [if_pos h]; exact ih) (fun h => by rw [if_neg h]; exact ev_some rfl)

theorem impl_SameNode_ev (b : Bool) (ks vs : List ByteArray) (ids : List Int) (b2 : Bool) (ks2 vs2 : List ByteArray) (ids2 : List Int) (h1 : ks.length ≤ 1048576) (h2 : vs.length ≤ 1048576) (h3 : ids.length ≤ 1048576) : Ev (fun k => impl_SameNode.f k b ks vs ids b2 ks2 vs2 ids2) (sameN b ks vs ids b2 ks2 vs2 ids2) := by
  unfold impl_SameNode.f sameN
  refine ev_ite (fun h => ?_) (fun h => by rw [if_neg h]; exact ev_some rfl)
  rw [if_pos h]
  refine Ev.bind (impl_sameTexts_ev ks ks2 h1) (ev_ite (fun g => ?_) (fun g => by rw [if_neg g]; exact ev_some rfl))
  rw [if_pos g]
  refine Ev.bind (impl_sameTexts_ev vs vs2 h2) (ev_ite (fun g2 => ?_) (fun g2 => by rw [if_neg g2]; exact ev_some rfl))
  rw [if_pos g2]
  exact Ev.bind (impl_sameInts_ev ids ids2 h3) (ev_some rfl)

theorem spec_l1New_loop (l : List Int) (hl : l.length ≤ 1048576) : ∀ (d i : Nat) (x : Int), i + d = min l.length 4000 → EvP (fun k => spec_l1New.l0 k l x (i : Int)) (fun r => r.1 = l ∧ r.2.1 = 0) := by
  intro d
  induction d with
  | zero =>
    intro i x hi
    refine EvP.step (fun k => by rw [spec_l1New.l0]) ?_
    refine EvP.ite (fun h => ?_) (fun h => ?_)
    · exact EvP.neg (by omega) (EvP.some_ ⟨rfl, rfl⟩)
    · exact EvP.some_ ⟨rfl, rfl⟩
  | succ d ih =>
    intro i x hi
    refine EvP.step (fun k => by rw [spec_l1New.l0]) ?_
    refine EvP.pos (by omega) (EvP.pos (by omega) (EvP.pos (by omega) ?_))
    rw [wrap_succ (by omega)]
    exact ih (i + 1) _ (by omega)
theorem spec_l1New_evp (l : List Int) (hl : l.length ≤ 1048576) : EvP (fun k => spec_l1New.f k l) (fun r => r.1 = l ∧ r.2.1 = 0) := by
  unfold spec_l1New.f
  exact spec_l1New_loop l hl (min l.length 4000) 0 _ (by omega)

theorem spec_l1Byte_evp (b : List Int) (i h : Int) (hi : inv b i) (hb : b.length ≤ 1048576) : EvP (fun _ => spec_l1Byte.f b i h) (fun r => 0 ≤ r.1 ∧ r.1 ≤ 255 ∧ inv b r.2.1) := by
  unfold spec_l1Byte.f
  unfold inv at *
  refine EvP.ite (fun g => ?_) (fun g => ?_)
  · refine EvP.pos hi.1 (EvP.some_ ⟨(and255 _).1, (and255 _).2, ?_⟩)
    dsimp only
    rw [wrap_id (by omega) (by omega)]
    omega
  · exact EvP.some_ ⟨(and255 _).1, (and255 _).2, hi⟩

theorem spec_l1Below_evp (b : List Int) (i h n : Int) (hi : inv b i) (hb : b.length ≤ 1048576) : EvP (fun _ => spec_l1Below.f b i h n) (fun r => 0 ≤ r.1 ∧ (0 < n → r.1 < n) ∧ inv b r.2.1) := by
  have md : ∀ x : Int, 0 ≤ x → ¬ n ≤ 0 → 0 ≤ Int.tmod x n ∧ (0 < n → Int.tmod x n < n) := by
    intro x hx hn
    rw [Int.tmod_eq_emod_of_nonneg hx]
    exact ⟨Int.emod_nonneg _ (by omega), fun h => Int.emod_lt_of_pos _ h⟩
  unfold spec_l1Below.f
  refine EvP.ite (fun g => EvP.some_ ⟨by simp, fun h => by omega, hi⟩) (fun g => ?_)
  refine EvP.ite (fun g2 => ?_) (fun g2 => ?_)
  · refine EvP.bind (spec_l1Byte_evp b i h hi hb) (fun r hr => ?_)
    have := md r.1 hr.1 g
    exact EvP.neg (by omega) (EvP.some_ ⟨this.1, this.2, hr.2.2⟩)
  · refine EvP.bind (spec_l1Byte_evp b i h hi hb) (fun r hr => ?_)
    refine EvP.bind (spec_l1Byte_evp b _ _ hr.2.2 hb) (fun s hs => ?_)
    refine EvP.bind (spec_l1Byte_evp b _ _ hs.2.2 hb) (fun t ht => ?_)
    have e : wrap64 (wrap64 (wrap64 (r.1 * 65536) + wrap64 (s.1 * 256)) + t.1) = r.1 * 65536 + s.1 * 256 + t.1 := by
      rw [wrap_id (x := r.1 * 65536) (by omega) (by omega), wrap_id (x := s.1 * 256) (by omega) (by omega), wrap_id (x := r.1 * 65536 + s.1 * 256) (by omega) (by omega), wrap_id (by omega) (by omega)]
    rw [e]
    have := md (r.1 * 65536 + s.1 * 256 + t.1) (by omega) g
    exact EvP.neg (by omega) (EvP.some_ ⟨this.1, this.2, ht.2.2⟩)

theorem spec_l1Int_evp (b : List Int) (i h : Int) (l : List Int) (hl : 0 < l.length) (hi : inv b i) (hb : b.length ≤ 1048576) : EvP (fun _ => spec_l1Int.f b i h l) (fun r => r.1 ∈ l ∧ inv b r.2.1) := by
  unfold spec_l1Int.f
  refine EvP.bind (spec_l1Below_evp b i h _ hi hb) (fun r hr => ?_)
  have h2 := hr.2.1 (by omega)
  refine EvP.pos hr.1 (EvP.pos h2 (EvP.some_ ⟨?_, hr.2.2⟩))
  have hx : l[r.1.toNat]? = some l[r.1.toNat] := List.getElem?_eq_getElem (by omega)
  have e : rd l r.1 = l[r.1.toNat] := by
    have h3 : rd l ((r.1.toNat : Nat) : Int) = l[r.1.toNat] := rd_at hx
    rwa [show ((r.1.toNat : Nat) : Int) = r.1 by omega] at h3
  dsimp only
  rw [e]
  exact List.getElem_mem _

theorem spec_l1Once_evp (b : List Int) (i h n : Int) (hi : inv b i) (hb : b.length ≤ 1048576) : EvP (fun _ => spec_l1Once.f b i h n) (fun r => inv b r.2.1) := by
  unfold spec_l1Once.f
  exact EvP.bind (spec_l1Below_evp b i h n hi hb) (fun r hr => EvP.some_ hr.2.2)

theorem spec_l1Str_evp (b : List Int) (i h : Int) (l : List ByteArray) (hl : 0 < l.length) (hi : inv b i) (hb : b.length ≤ 1048576) : EvP (fun _ => spec_l1Str.f b i h l) (fun r => r.1 ∈ l ∧ inv b r.2.1) := by
  unfold spec_l1Str.f
  refine EvP.bind (spec_l1Below_evp b i h _ hi hb) (fun r hr => ?_)
  have h2 := hr.2.1 (by omega)
  refine EvP.pos hr.1 (EvP.pos h2 (EvP.some_ ⟨?_, hr.2.2⟩))
  have hx : l[r.1.toNat]? = some l[r.1.toNat] := List.getElem?_eq_getElem (by omega)
  have e : rdOf ByteArray.empty l r.1 = l[r.1.toNat] := by
    have h3 : rdOf ByteArray.empty l ((r.1.toNat : Nat) : Int) = l[r.1.toNat] := rdOf_at hx
    rwa [show ((r.1.toNat : Nat) : Int) = r.1 by omega] at h3
  dsimp only
  rw [e]
  exact List.getElem_mem _

/-- A node whose rows are short and whose texts are small. -/
def smallN (n : Nat) (ks vs : List ByteArray) (ids : List Int) : Prop := ks.length ≤ n ∧ (∀ x ∈ ks, x.size ≤ 100) ∧ vs.length ≤ n ∧ (∀ x ∈ vs, x.size ≤ 100) ∧ ids.length ≤ n
theorem sum_small (l : List ByteArray) (h : ∀ x ∈ l, x.size ≤ 100) : (l.map ByteArray.size).sum ≤ 100 * l.length := by
  induction l with
  | nil => simp
  | cons x r ih =>
    have h1 := h x List.mem_cons_self
    have h2 := ih (fun y hy => h y (List.mem_cons_of_mem _ hy))
    simp only [List.map_cons, List.sum_cons, List.length_cons]
    omega
theorem smallN_le {n m : Nat} {ks vs : List ByteArray} {ids : List Int} (h : smallN n ks vs ids) (hm : n ≤ m) : smallN m ks vs ids := ⟨by have := h.1; omega, h.2.1, by have := h.2.2.1; omega, h.2.2.2.1, by have := h.2.2.2.2; omega⟩

def drawN (b : List Int) (n : Nat) (r : Bool × List ByteArray × List ByteArray × List Int × Int × Int) : Prop := smallN n r.2.1 r.2.2.1 r.2.2.2.1 ∧ inv b r.2.2.2.2.1
theorem spec_l14Draw_l1 (b : List Int) (hb : b.length ≤ 1048576) (lf : Bool) (ks : List ByteArray) (hk : ks.length ≤ 6) (hks : ∀ x ∈ ks, x.size ≤ 100) : ∀ (d i : Nat) (ci h : Int) (vs : List ByteArray) (ids : List Int), i + d = ks.length + 1 → inv b ci → vs.length ≤ i → (∀ x ∈ vs, x.size ≤ 100) → ids.length ≤ i → EvP (fun k => spec_l14Draw.l1 k (i : Int) b ci h lf ks vs ids) (drawN b 7) := by
  intro d
  induction d with
  | zero =>
    intro i ci h vs ids hi hc hv hvs hd
    refine EvP.step (fun k => by rw [spec_l14Draw.l1]) (EvP.neg (by omega) (EvP.some_ ⟨⟨?_, hks, ?_, hvs, ?_⟩, hc⟩))
    · dsimp only; omega
    · dsimp only; omega
    · dsimp only; omega
  | succ d ih =>
    intro i ci h vs ids hi hc hv hvs hd
    refine EvP.step (fun k => by rw [spec_l14Draw.l1]) (EvP.pos (by omega) ?_)
    rw [wrap_succ (by omega)]
    refine EvP.ite (fun _ => ?_) (fun _ => ?_)
    · refine EvP.ite (fun _ => ?_) (fun _ => ?_)
      · refine EvP.bind (spec_l1Str_evp b ci h _ (by simp) hc hb) (fun r hr => EvP.pos (by omega) ?_)
        refine ih (i + 1) _ _ _ _ (by omega) hr.2 (by rw [List.length_append, List.length_singleton]; omega) ?_ (by omega)
        intro x hx
        rcases List.mem_append.1 hx with hx | hx
        · exact hvs x hx
        · rw [List.mem_singleton] at hx
          rw [hx]
          have := hr.1
          simp only [List.mem_cons, List.not_mem_nil, or_false] at this
          rcases this with e | e | e <;> rw [e] <;> decide
      · exact ih (i + 1) _ _ _ _ (by omega) hc (by omega) hvs (by omega)
    · refine EvP.bind (spec_l1Below_evp b ci h _ hc hb) (fun r hr => EvP.pos (by omega) ?_)
      exact ih (i + 1) _ _ _ _ (by omega) hr.2.2 (by omega) hvs (by rw [List.length_append, List.length_singleton]; omega)
theorem spec_l14Draw_l0 (b : List Int) (hb : b.length ≤ 1048576) (lf : Bool) (nm : List ByteArray) (hn : nm.length ≤ 6) (hnm : ∀ x ∈ nm, x.size ≤ 1) : ∀ (d i : Nat) (ci h : Int) (ks : List ByteArray), i + d = nm.length → inv b ci → ks.length ≤ i → (∀ x ∈ ks, x.size ≤ 100) → EvP (fun k => spec_l14Draw.l0 k nm (i : Int) b ci h lf ks) (drawN b 7) := by
  intro d
  induction d with
  | zero =>
    intro i ci h ks hi hc hk hks
    refine EvP.step (fun k => by rw [spec_l14Draw.l0]) (EvP.neg (by omega) ?_)
    exact spec_l14Draw_l1 b hb lf ks (by omega) hks (ks.length + 1) 0 ci h [] [] (by omega) hc (by simp) (by simp) (by simp)
  | succ d ih =>
    intro i ci h ks hi hc hk hks
    refine EvP.step (fun k => by rw [spec_l14Draw.l0]) (EvP.pos (by omega) ?_)
    rw [wrap_succ (by omega)]
    refine EvP.bind (spec_l1Once_evp b ci h 2 hc hb) (fun r hr => ?_)
    refine EvP.ite (fun _ => ?_) (fun _ => ?_)
    · have hx : nm[i]? = some nm[i] := List.getElem?_eq_getElem (by omega)
      have hx2 := hnm _ (List.mem_of_getElem? hx)
      refine EvP.pos (by omega) (EvP.bind (spec_l1Str_evp b _ _ _ (by simp) hr hb) (fun s hs => ?_))
      rw [show rdOf ByteArray.empty nm (i : Int) = nm[i] from rdOf_at hx]
      have hsz : s.1.size ≤ 50 := by
        have := hs.1
        simp only [List.mem_cons, List.not_mem_nil, or_false] at this
        rcases this with e | e | e <;> rw [e] <;> decide
      refine EvP.pos (by omega) (EvP.pos (by omega) ?_)
      refine ih (i + 1) _ _ _ (by omega) hs.2 (by rw [List.length_append, List.length_singleton]; omega) ?_
      intro x hx
      rcases List.mem_append.1 hx with hx | hx
      · exact hks x hx
      · rw [List.mem_singleton] at hx
        rw [hx, ByteArray.size_append]
        omega
    · exact ih (i + 1) _ _ _ (by omega) hr (by omega) hks
theorem spec_l14Draw_evp (b : List Int) (ci h : Int) (hc : inv b ci) (hb : b.length ≤ 1048576) : EvP (fun k => spec_l14Draw.f k b ci h) (drawN b 7) := by
  unfold spec_l14Draw.f
  refine EvP.bind (spec_l1Once_evp b ci h 2 hc hb) (fun r hr => ?_)
  refine spec_l14Draw_l0 b hb _ _ (by simp) ?_ 6 0 _ _ _ (by simp) hr (by simp) (by simp)
  intro x hx
  simp only [List.mem_cons, List.not_mem_nil, or_false] at hx
  rcases hx with e | e | e | e | e | e <;> rw [e] <;> decide

theorem app_small {n : Nat} {l : List ByteArray} {x : ByteArray} (hl : l.length ≤ n) (h : ∀ y ∈ l, y.size ≤ 100) (hx : x.size ≤ 100) : (l ++ [x]).length ≤ n + 1 ∧ ∀ y ∈ l ++ [x], y.size ≤ 100 := by
  refine ⟨by rw [List.length_append, List.length_singleton]; omega, ?_⟩
  intro y hy
  rcases List.mem_append.1 hy with hy | hy
  · exact h y hy
  · rw [List.mem_singleton] at hy; rw [hy]; exact hx
theorem spec_l14Any_evp (b : List Int) (ci h : Int) (hc : inv b ci) (hb : b.length ≤ 1048576) : EvP (fun k => spec_l14Any.f k b ci h) (drawN b 8) := by
  unfold spec_l14Any.f
  refine EvP.bind (spec_l14Draw_evp b ci h hc hb) (fun r hr => ?_)
  have hr1 := hr.1
  refine EvP.bind (spec_l1Below_evp b _ _ 12 hr.2 hb) (fun s hs => ?_)
  have z : ∀ n : Nat, (strOfNums (List.replicate n 0)).size = n := fun n => by rw [strOfNums_size, List.length_replicate]
  refine EvP.ite (fun _ => EvP.some_ ⟨smallN_le hr1 (by omega), hs.2.2⟩) (fun _ => ?_)
  refine EvP.ite (fun _ => ?_) (fun _ => ?_)
  · refine EvP.pos (by omega) (EvP.bind (spec_l1Str_evp b _ _ _ (by simp) hs.2.2 hb) (fun t ht => ?_))
    have hsz : t.1.size ≤ 100 := by
      have := ht.1
      simp only [List.mem_cons, List.not_mem_nil, or_false] at this
      rcases this with e | e | e
      · rw [e]; decide
      · rw [e]; decide
      · rw [e, z]; omega
    have a := app_small hr1.1 hr1.2.1 hsz
    exact EvP.pos (by have := hr1.1; omega) (EvP.some_ ⟨⟨a.1, a.2, by have := hr1.2.2.1; dsimp only; omega, hr1.2.2.2.1, by have := hr1.2.2.2.2; dsimp only; omega⟩, ht.2⟩)
  · refine EvP.ite (fun _ => ?_) (fun _ => ?_)
    · refine EvP.pos (by omega) (EvP.bind (spec_l1Str_evp b _ _ _ (by simp) hs.2.2 hb) (fun t ht => ?_))
      have hsz : t.1.size ≤ 100 := by
        have := ht.1
        simp only [List.mem_cons, List.not_mem_nil, or_false] at this
        rcases this with e | e
        · rw [e]; decide
        · rw [e, z]; omega
      have a := app_small hr1.2.2.1 hr1.2.2.2.1 hsz
      exact EvP.pos (by have := hr1.2.2.1; omega) (EvP.some_ ⟨⟨by have := hr1.1; dsimp only; omega, hr1.2.1, a.1, a.2, by have := hr1.2.2.2.2; dsimp only; omega⟩, ht.2⟩)
    · refine EvP.ite (fun _ => ?_) (fun _ => EvP.some_ ⟨smallN_le hr1 (by omega), hs.2.2⟩)
      refine EvP.bind (spec_l1Int_evp b _ _ _ (by simp) hs.2.2 hb) (fun t ht => ?_)
      refine EvP.pos (by have := hr1.2.2.2.2; omega) (EvP.some_ ⟨⟨by have := hr1.1; dsimp only; omega, hr1.2.1, by have := hr1.2.2.1; dsimp only; omega, hr1.2.2.2.1, ?_⟩, ht.2⟩)
      have := hr1.2.2.2.2
      dsimp only
      rw [List.length_append, List.length_singleton]
      omega

theorem spec_l14Key_evp (b : List Int) (ci h : Int) (hc : inv b ci) (hb : b.length ≤ 1048576) : EvP (fun _ => spec_l14Key.f b ci h) (fun r => r.1.size ≤ 100) := by
  unfold spec_l14Key.f
  refine EvP.bind (spec_l1Str_evp b ci h _ (by simp) hc hb) (fun r hr => ?_)
  have h1 : r.1.size ≤ 1 := by
    have := hr.1
    simp only [List.mem_cons, List.not_mem_nil, or_false] at this
    rcases this with e | e | e | e | e | e | e | e <;> rw [e] <;> decide
  refine EvP.bind (spec_l1Str_evp b _ _ _ (by simp) hr.2 hb) (fun s hs => ?_)
  have h2 : s.1.size ≤ 50 := by
    have := hs.1
    simp only [List.mem_cons, List.not_mem_nil, or_false] at this
    rcases this with e | e | e | e <;> rw [e] <;> decide
  refine EvP.pos (by omega) (EvP.some_ ?_)
  dsimp only
  rw [ByteArray.size_append]
  omega

theorem spec_DrawChildOf_evp (l : List Int) (hl : l.length ≤ 1048576) : EvP (fun k => spec_DrawChildOf.f k l) (fun r => smallN 8 r.2.1 r.2.2.1 r.2.2.2.1 ∧ r.2.2.2.2.size ≤ 100) := by
  unfold spec_DrawChildOf.f
  refine EvP.bind (spec_l1New_evp l hl) (fun r hr => ?_)
  rw [hr.1, hr.2]
  refine EvP.bind (spec_l14Any_evp l 0 _ ⟨Int.le_refl _, by omega⟩ hl) (fun s hs => ?_)
  refine EvP.bind (spec_l14Key_evp l _ _ hs.2 hl) (fun t ht => EvP.some_ ⟨hs.1, ht⟩)

theorem spec_l14Copy_eq (b : Bool) (ks vs : List ByteArray) (ids : List Int) (h1 : ks.length ≤ 100) (h2 : vs.length ≤ 100) (h3 : ids.length ≤ 100) : spec_l14Copy.f b ks vs ids = some (b, ks, vs, ids) := by
  unfold spec_l14Copy.f
  simp only [Option.bind_some, List.nil_append]
  rw [if_pos (by simp; omega), if_pos (by simp; omega), if_pos (by simp; omega)]

theorem spec_DrawSameNode_evp (l : List Int) (hl : l.length ≤ 1048576) : EvP (fun k => spec_DrawSameNode.f k l) (fun r => smallN 8 r.2.1 r.2.2.1 r.2.2.2.1 ∧ smallN 8 r.2.2.2.2.2.1 r.2.2.2.2.2.2.1 r.2.2.2.2.2.2.2) := by
  unfold spec_DrawSameNode.f
  refine EvP.bind (spec_l1New_evp l hl) (fun r hr => ?_)
  rw [hr.1, hr.2]
  refine EvP.bind (spec_l14Any_evp l 0 _ ⟨Int.le_refl _, by omega⟩ hl) (fun s hs => ?_)
  refine EvP.bind (spec_l1Once_evp l _ _ 2 hs.2 hl) (fun t ht => ?_)
  have hs1 := hs.1
  refine EvP.ite (fun _ => ?_) (fun _ => ?_)
  · exact EvP.bind (P := fun a => a = (s.1, s.2.1, s.2.2.1, s.2.2.2.1)) (EvP.ev (ev_c (spec_l14Copy_eq _ _ _ _ (by have := hs1.1; omega) (by have := hs1.2.2.1; omega) (by have := hs1.2.2.2.2; omega))) rfl) (fun a ha => EvP.some_ (by rw [ha]; exact ⟨hs1, hs1⟩))
  · exact EvP.bind (spec_l14Any_evp l _ _ ht hl) (fun a ha => EvP.some_ ⟨hs1, ha.1⟩)

theorem spec_PutU_loop (s : List Int) (n : Int) (hs : s.length < 140737488355317) (h0 : 0 ≤ n) (h1 : n ≤ 1000000) : Ev (fun k => spec_PutU.l0 k n s) (s ++ groups n) := by
  refine ev_groups (fun k s n => spec_PutU.l0 k n s) ?_ ?_ s n hs h0 h1
  · intro s n r hs h0 h1 ih
    refine Ev.step (fun k => by rw [spec_PutU.l0]) ?_
    refine ev_pos h0 (ev_pos (by omega) ?_)
    rw [and127 n (by omega) (by omega), or128 _ (by omega) (by omega), show (n % 128 + 128) % 256 = n % 128 + 128 by omega]
    exact ih
  · intro s n hs h0 h1
    refine Ev.step (fun k => by rw [spec_PutU.l0]) ?_
    refine ev_neg (by omega) (ev_pos (by omega) (ev_some ?_))
    rw [show n % 256 = n by omega]
theorem spec_PutU_ev (l : List Int) (n : Int) (hs : l.length < 140737488355317) : Ev (fun k => spec_PutU.f k l n) (l ++ uM n) := by
  have hb := clampU_bd n
  unfold spec_PutU.f
  refine Ev.bind (ev_c rfl) (ev_pos (by simp; omega) (Ev.bind (ev_c rfl) ?_))
  simp only [List.nil_append]
  unfold uM
  refine ev_ite (fun h => ?_) (fun h => ?_)
  · have e : clampU n = 1000000 := by unfold clampU; rw [if_neg (by omega), if_pos h]
    rw [e]
    refine Ev.step (fun k => by rw [spec_PutU.j0]) (ev_neg (by omega) (Ev.step (fun k => by rw [spec_PutU.j1]) ?_))
    exact spec_PutU_loop _ _ hs (by omega) (by omega)
  · refine Ev.step (fun k => by rw [spec_PutU.j0]) (ev_ite (fun h2 => ?_) (fun h2 => ?_))
    · have e : clampU n = 0 := by unfold clampU; rw [if_pos h2]
      rw [e]
      exact Ev.step (fun k => by rw [spec_PutU.j1]) (spec_PutU_loop _ _ hs (by omega) (by omega))
    · have e : clampU n = n := by unfold clampU; rw [if_neg h2, if_neg h]
      rw [e]
      exact Ev.step (fun k => by rw [spec_PutU.j1]) (spec_PutU_loop _ _ hs (by omega) (by omega))

theorem spec_PutText_ev (l : List Int) (s : ByteArray) (hs : l.length + s.size < 140737488355310) : Ev (fun k => spec_PutText.f k l s) (l ++ uM s.size ++ bytesOf s) := by
  have hb := uM_len s.size
  unfold spec_PutText.f
  refine Ev.bind (spec_PutU_ev l _ (by omega)) (ev_pos (by simp only [List.length_append]; omega) (ev_some rfl))

theorem spec_l14Put_ev (b : Bool) (ks vs : List ByteArray) (ids : List Int) (hk : ks.length + (ks.map ByteArray.size).sum ≤ 1048576) (hv : vs.length + (vs.map ByteArray.size).sum ≤ 1048576) (hi : ids.length ≤ 1048576) :
    Ev (fun k => spec_l14Put.f k b ks vs ids) (nodeB b ks vs ids) := by
  have s1 := sum_le3 ks txtM ByteArray.size txtM_len
  have s2 := sum_le3 vs txtM ByteArray.size txtM_len
  have s3 := sum_uM ids
  have txt : ∀ (s : List Int) (x : ByteArray), s.length + (txtM x).length ≤ 1000000000 → Ev (fun k => spec_PutText.f k s x) (s ++ txtM x) := by
    intro s x h
    have e : (txtM x).length = (uM x.size).length + x.size := by unfold txtM; rw [List.length_append, bytesOf_length]
    unfold txtM
    rw [← List.append_assoc]
    exact spec_PutText_ev s x (by omega)
  have kids : ∀ s, b = false → s.length + (ids.map fun x => (uM x).length).sum ≤ 1000000000 → Ev (fun k => spec_l14Put.l2 k s 0 b ks vs ids) (s ++ ids.flatMap uM) := by
    intro s hb hs
    subst hb
    refine ev_flat (fun k s i => spec_l14Put.l2 k s i false ks vs ids) ids uM (fun s => s) 1000000000 ?_ ?_ s hs
    · intro s _
      refine Ev.step (fun k => by rw [spec_l14Put.l2]) (ev_neg (by omega) (ev_some rfl))
    · intro s i x r hB hi' hx ih
      refine Ev.step (fun k => by rw [spec_l14Put.l2]) (ev_pos (by omega) (ev_neg (by simp) (ev_pos (by omega) ?_)))
      rw [show rd ids (i : Int) = x from getD_at hx, wrap_succ (by omega)]
      exact Ev.bind (spec_PutU_ev s x (by omega)) ih
  have j3 : ∀ s, s.length + (ids.map fun x => (uM x).length).sum ≤ 1000000000 → Ev (fun k => spec_l14Put.j3 k s b ks vs ids) (if b = true then s else s ++ ids.flatMap uM) := by
    intro s hs
    refine Ev.step (fun k => by rw [spec_l14Put.j3]) ?_
    cases b with
    | false => exact kids s rfl hs
    | true =>
      refine Ev.step (fun k => by rw [spec_l14Put.l2]) ?_
      refine ev_ite (fun _ => ?_) (fun _ => ?_)
      · exact ev_pos rfl (ev_some rfl)
      · exact ev_some rfl
  have vals : ∀ s, s.length + (vs.map fun x => (txtM x).length).sum + (ids.map fun x => (uM x).length).sum ≤ 1000000000 → Ev (fun k => spec_l14Put.l1 k s 0 b ks vs ids) (if b = true then s ++ vs.flatMap txtM else s ++ ids.flatMap uM) := by
    intro s hs
    cases b with
    | false =>
      refine Ev.step (fun k => by rw [spec_l14Put.l1]) ?_
      refine ev_ite (fun _ => ?_) (fun _ => ?_)
      · exact ev_neg (by simp) (j3 s (by omega))
      · exact j3 s (by omega)
    | true =>
      refine ev_flat (fun k s i => spec_l14Put.l1 k s i true ks vs ids) vs txtM (fun s => s) (1000000000 - (ids.map fun x => (uM x).length).sum) ?_ ?_ s (by omega)
      · intro s hs2
        refine Ev.step (fun k => by rw [spec_l14Put.l1]) (ev_neg (by omega) (j3 s (by omega)))
      · intro s i x r hB hi' hx ih
        refine Ev.step (fun k => by rw [spec_l14Put.l1]) (ev_pos (by omega) (ev_pos rfl (ev_pos (by omega) ?_)))
        rw [show rdOf ByteArray.empty vs (i : Int) = x from getD_at hx, wrap_succ (by omega)]
        exact Ev.bind (txt s x (by omega)) ih
  have keys : ∀ s, s.length + (ks.map fun x => (txtM x).length).sum + (vs.map fun x => (txtM x).length).sum + (ids.map fun x => (uM x).length).sum ≤ 1000000000 → Ev (fun k => spec_l14Put.l0 k s 0 b ks vs ids) (if b = true then (s ++ ks.flatMap txtM) ++ vs.flatMap txtM else (s ++ ks.flatMap txtM) ++ ids.flatMap uM) := by
    intro s hs
    refine ev_flat (fun k s i => spec_l14Put.l0 k s i b ks vs ids) ks txtM (fun s => if b = true then s ++ vs.flatMap txtM else s ++ ids.flatMap uM) (1000000000 - (vs.map fun x => (txtM x).length).sum - (ids.map fun x => (uM x).length).sum) ?_ ?_ s (by omega)
    · intro s hs2
      refine Ev.step (fun k => by rw [spec_l14Put.l0]) (ev_neg (by omega) (vals s (by omega)))
    · intro s i x r hB hi' hx ih
      refine Ev.step (fun k => by rw [spec_l14Put.l0]) (ev_pos (by omega) (ev_pos (by omega) ?_))
      rw [show rdOf ByteArray.empty ks (i : Int) = x from getD_at hx, wrap_succ (by omega)]
      exact Ev.bind (txt s x (by omega)) ih
  have head : ∀ n : Int, Ev (fun k => spec_l14Put.j0 k n b ks vs ids) (if b = true then (uM n ++ uM ks.length ++ ks.flatMap txtM) ++ vs.flatMap txtM else (uM n ++ uM ks.length ++ ks.flatMap txtM) ++ ids.flatMap uM) := by
    intro n
    have h1 := uM_len n
    have h2 := uM_len ks.length
    refine Ev.step (fun k => by rw [spec_l14Put.j0]) ?_
    refine Ev.bind (spec_PutU_ev [] n (by simp)) ?_
    rw [List.nil_append]
    exact Ev.bind (spec_PutU_ev _ _ (by omega)) (keys _ (by rw [List.length_append]; omega))
  unfold spec_l14Put.f nodeB
  refine ev_ite (fun h => ?_) (fun h => ?_)
  · have z := head 1
    simp only [if_pos h] at z ⊢
    exact z
  · have z := head 0
    simp only [if_neg h] at z ⊢
    exact z

theorem spec_SizeOf_ev (b : Bool) (ks vs : List ByteArray) (ids : List Int) (hk : ks.length + (ks.map ByteArray.size).sum ≤ 1048576) (hv : vs.length + (vs.map ByteArray.size).sum ≤ 1048576) (hi : ids.length ≤ 1048576) :
    Ev (fun k => spec_SizeOf.f k b ks vs ids) ((nodeB b ks vs ids).length : Int) := by
  unfold spec_SizeOf.f
  exact Ev.bind (spec_l14Put_ev b ks vs ids hk hv hi) (ev_some rfl)

theorem spec_l1In_eq (a b c : Int) : spec_l1In.f a b c = some (inB a b c) := by unfold spec_l1In.f inB; split <;> rfl

theorem spec_l14Rising_ev (ks : List ByteArray) (hk : ks.length ≤ 1048576) : Ev (fun k => spec_l14Rising.f k ks) (risingM none ks) := by
  have h := ev_listI0 (fun k (_ : Unit) i => spec_l14Rising.l0 k ks i) ks (fun _ _ => True) (fun _ i r => risingM (if i = 0 then none else ks[i - 1]?) r) () trivial ?_ ?_
  · exact h
  · intro s hI
    refine Ev.step (fun k => by rw [spec_l14Rising.l0]) ?_
    exact ev_neg (by omega) (ev_some rfl)
  · intro s i x r hI hi hx hd ih
    have ih := ih () trivial
    rw [if_neg (by omega), show i + 1 - 1 = i by omega, hx] at ih
    refine Ev.step (fun k => by rw [spec_l14Rising.l0]) ?_
    refine ev_pos (by omega) (ev_pos (by omega) ?_)
    rw [wrap_succ (by omega), show rdOf ByteArray.empty ks (i : Int) = x from getD_at hx]
    unfold risingM
    refine ev_ite (fun c => by rw [if_pos c]; exact ev_some rfl) (fun c => ?_)
    rw [if_neg c]
    by_cases h0 : i = 0
    · subst h0
      exact ev_neg (by omega) ih
    · obtain ⟨y, hy⟩ : ∃ y, ks[i - 1]? = some y := ⟨_, List.getElem?_eq_getElem (by omega)⟩
      rw [if_neg h0, hy]
      have e : wrap64 ((i : Int) - 1) = ((i - 1 : Nat) : Int) := by rw [wrap_id (by omega) (by omega)]; omega
      refine ev_pos (by omega) ?_
      rw [e]
      refine ev_pos (by omega) (ev_pos (by omega) ?_)
      rw [show rdOf ByteArray.empty ks ((i - 1 : Nat) : Int) = y from getD_at hy]
      exact ev_ite (fun c => by simp only [if_pos c]; exact ih) (fun c => by simp only [if_neg c]; exact ev_some rfl)

theorem spec_NodeOk_ev (b : Bool) (ks vs : List ByteArray) (ids : List Int) (hk : ks.length + (ks.map ByteArray.size).sum ≤ 1048576) (hv : vs.length + (vs.map ByteArray.size).sum ≤ 1048576) (hi : ids.length ≤ 1048576) :
    Ev (fun k => spec_NodeOk.f k b ks vs ids) (nodeOkM b ks vs ids) := by
  have l0 : Ev (fun k => spec_NodeOk.l0 k 0 b ks vs ids) (vs.all (fun v => decide ((v.size : Int) ≤ 60)) && decide (1 ≤ ks.length) && decide (vs.length = ks.length) && decide (ids.length = 0)) := by
    have h := ev_all (fun k i => spec_NodeOk.l0 k i b ks vs ids) vs (fun v => decide ((v.size : Int) ≤ 60)) (decide (1 ≤ ks.length) && decide (vs.length = ks.length) && decide (ids.length = 0)) ?_ ?_
    · refine ev_eq h ?_
      by_cases c : vs.all (fun v => decide ((v.size : Int) ≤ 60)) = true
      · rw [if_pos c, c, Bool.true_and]
      · rw [if_neg c, Bool.eq_false_iff.2 c, Bool.false_and, Bool.false_and, Bool.false_and]
    · refine Ev.step (fun k => by rw [spec_NodeOk.l0]) (ev_neg (by omega) ?_)
      refine ev_ite (fun c => ?_) (fun c => ev_some (by rw [decide_eq_false (show ¬ 1 ≤ ks.length by omega)]; simp))
      rw [decide_eq_true (show 1 ≤ ks.length by omega), Bool.true_and]
      refine ev_ite (fun c => ev_some ?_) (fun c => ev_some (by rw [decide_eq_false (show ¬ vs.length = ks.length by omega)]; simp))
      rw [decide_eq_true (show vs.length = ks.length by omega), Bool.true_and, Bool.eq_iff_iff]
      simp
    · intro i x r hi' hx ih
      refine Ev.step (fun k => by rw [spec_NodeOk.l0]) (ev_pos (by omega) (ev_pos (by omega) ?_))
      rw [show rdOf ByteArray.empty vs (i : Int) = x from getD_at hx, wrap_succ (by omega)]
      refine ev_ite (fun c => ?_) (fun c => ?_)
      · rw [if_neg (by simp only [decide_eq_true_eq]; omega)]; exact ev_some rfl
      · rw [if_pos (by simp only [decide_eq_true_eq]; omega)]; exact ih
  have l1 : Ev (fun k => spec_NodeOk.l1 k 0 b ks vs ids) (ids.all (fun n => inB n 2 47) && decide (1 ≤ ids.length) && decide (ks.length + 1 = ids.length) && decide (vs.length = 0)) := by
    have h := ev_all (fun k i => spec_NodeOk.l1 k i b ks vs ids) ids (fun n => inB n 2 47) (decide (1 ≤ ids.length) && decide (ks.length + 1 = ids.length) && decide (vs.length = 0)) ?_ ?_
    · refine ev_eq h ?_
      by_cases c : ids.all (fun n => inB n 2 47) = true
      · rw [if_pos c, c, Bool.true_and]
      · rw [if_neg c, Bool.eq_false_iff.2 c, Bool.false_and, Bool.false_and, Bool.false_and]
    · refine Ev.step (fun k => by rw [spec_NodeOk.l1]) (ev_neg (by omega) ?_)
      refine ev_ite (fun c => ?_) (fun c => ev_some (by rw [decide_eq_false (show ¬ 1 ≤ ids.length by omega)]; simp))
      rw [decide_eq_true (show 1 ≤ ids.length by omega), Bool.true_and, wrap_id (by omega) (by omega)]
      refine ev_ite (fun c => ev_some ?_) (fun c => ev_some (by rw [decide_eq_false (show ¬ ks.length + 1 = ids.length by omega)]; simp))
      rw [decide_eq_true (show ks.length + 1 = ids.length by omega), Bool.true_and, Bool.eq_iff_iff]
      simp
    · intro i x r hi' hx ih
      refine Ev.step (fun k => by rw [spec_NodeOk.l1]) (ev_pos (by omega) (ev_pos (by omega) ?_))
      rw [show rd ids (i : Int) = x from getD_at hx, wrap_succ (by omega)]
      refine Ev.bind (ev_c (spec_l1In_eq _ _ _)) (ev_ite (fun c => ?_) (fun c => ?_))
      · rw [if_pos c]; exact ih
      · rw [if_neg c]; exact ev_some rfl
  have j0 : ∀ q : Bool, Ev (fun k => spec_NodeOk.j0 k q b ks vs ids) (if q = true then false else if b = true then (vs.all (fun v => decide ((v.size : Int) ≤ 60)) && decide (1 ≤ ks.length) && decide (vs.length = ks.length) && decide (ids.length = 0)) else (ids.all (fun n => inB n 2 47) && decide (1 ≤ ids.length) && decide (ks.length + 1 = ids.length) && decide (vs.length = 0))) := by
    intro q
    refine Ev.step (fun k => by rw [spec_NodeOk.j0]) (ev_ite (fun c => ?_) (fun c => ?_))
    · rw [if_pos c]; exact ev_some rfl
    · rw [if_neg c]
      exact ev_ite (fun h => by rw [if_pos h]; exact l0) (fun h => by rw [if_neg h]; exact l1)
  unfold spec_NodeOk.f nodeOkM
  refine Ev.bind (spec_l14Rising_ev ks (by omega)) ?_
  refine ev_ite (fun c => ?_) (fun c => ?_)
  · rw [c, Bool.true_and]
    refine Ev.bind (spec_SizeOf_ev b ks vs ids hk hv hi) (ev_eq (j0 _) ?_)
    by_cases d : ((nodeB b ks vs ids).length : Int) ≤ 240
    · rw [if_neg (by simp only [decide_eq_true_eq]; omega), decide_eq_true d, Bool.true_and]
    · rw [if_pos (by simp only [decide_eq_true_eq]; omega), decide_eq_false d, Bool.false_and]
  · rw [Bool.eq_false_iff.2 c, Bool.false_and, Bool.false_and]
    exact ev_eq (j0 true) (by simp)

theorem less_trans : ∀ (a b c : List UInt8), Op.bytesLess a b = true → Op.bytesLess b c = true → Op.bytesLess a c = true
  | _, [], _, h, _ => by cases ‹List UInt8› <;> simp [Op.bytesLess] at h
  | _, _ :: _, [], _, h => by simp [Op.bytesLess] at h
  | [], _ :: _, _ :: _, _, _ => rfl
  | x :: a, y :: b, z :: c, h1, h2 => by
    simp only [Op.bytesLess, Bool.or_eq_true, Bool.and_eq_true, decide_eq_true_eq, beq_iff_eq] at h1 h2 ⊢
    rcases h1 with h1 | ⟨rfl, h1⟩
    · rcases h2 with h2 | ⟨rfl, _⟩
      · exact Or.inl (UInt8.lt_trans h1 h2)
      · exact Or.inl h1
    · rcases h2 with h2 | ⟨rfl, h2⟩
      · exact Or.inl h2
      · exact Or.inr ⟨rfl, less_trans a b c h1 h2⟩
/-- Behind a key above k, in rising order, all are above k. -/
theorem childM_above (key : ByteArray) : ∀ (r : List ByteArray) (n : Int) (p : ByteArray), Op.bytesLess key.toList p.toList = true → risingM (some p) r = true → childM key n r = n
  | [], _, _, _, _ => rfl
  | x :: r, n, p, hp, hr => by
    simp only [risingM] at hr
    split at hr
    · cases hr
    · split at hr
      · rename_i h
        have hx := less_trans _ _ _ hp h
        rw [childM, if_pos hx]
        exact childM_above key r n x hx hr
      · cases hr
/-- How many are not above k, in rising order: they are the first ones. -/
theorem childM_first (key : ByteArray) : ∀ (r : List ByteArray) (o : Option ByteArray) (n : Int), risingM o r = true → ∃ c : Nat, childM key n r = n + c ∧ c ≤ r.length ∧ (∀ x, 0 < c → r[c - 1]? = some x → ¬ Op.bytesLess key.toList x.toList = true) ∧ (∀ x, r[c]? = some x → Op.bytesLess key.toList x.toList = true)
  | [], _, n, _ => ⟨0, by simp [childM], by simp, fun x h => by omega, fun x h => by simp at h⟩
  | x :: r, o, n, hr => by
    have hr2 : risingM (some x) r = true := by
      simp only [risingM] at hr
      split at hr
      · cases hr
      · cases o with
        | none => exact hr
        | some p =>
          simp only at hr
          split at hr
          · exact hr
          · cases hr
    by_cases h : Op.bytesLess key.toList x.toList = true
    · refine ⟨0, ?_, by simp, fun y hy => by omega, fun y hy => ?_⟩
      · rw [childM, if_pos h, childM_above key r n x h hr2]; simp
      · simp only [List.getElem?_cons_zero, Option.some.injEq] at hy
        rw [← hy]; exact h
    · obtain ⟨c, e1, e2, e3, e4⟩ := childM_first key r (some x) (n + 1) hr2
      refine ⟨c + 1, ?_, by simp; omega, fun y _ hy => ?_, fun y hy => ?_⟩
      · rw [childM, if_neg h, e1]; omega
      · cases c with
        | zero =>
          simp only [Nat.zero_add, Nat.sub_self, List.getElem?_cons_zero, Option.some.injEq] at hy
          rw [← hy]; exact h
        | succ c =>
          refine e3 y (by omega) ?_
          simpa using hy
      · exact e4 y (by simpa using hy)
theorem childM_bd (key : ByteArray) : ∀ (r : List ByteArray) (n : Int), n ≤ childM key n r ∧ childM key n r ≤ n + r.length
  | [], n => by simp [childM]
  | x :: r, n => by
    rw [childM]
    split
    · have := childM_bd key r n; simp only [List.length_cons]; omega
    · have := childM_bd key r (n + 1); simp only [List.length_cons]; omega
theorem FnChildren : ∀ (l0 : List Int), (l0.length * 1 ≤ 140737488351232 ∧ ∀ e0 ∈ l0, (0 ≤ e0 ∧ e0 ≤ 255)) → ∃ k, laws_FnChildren.f k l0 = some true := by
  intro l hl
  refine Ev.rounds ?_
  have e : EvP (fun k => laws_FnChildren.f k l) (fun r => r = true) := by
    unfold laws_FnChildren.f
    refine EvP.bind (P := fun a => a = decide ((l.length : Int) > 1048576)) (EvP.ev (ev_c rfl) rfl) (fun a ha => ?_)
    refine EvP.ite (fun _ => EvP.some_ rfl) (fun g => ?_)
    have hl2 : l.length ≤ 1048576 := by
      rw [ha, decide_eq_true_iff] at g
      omega
    refine EvP.bind (spec_DrawChildOf_evp l hl2) (fun d hd => ?_)
    obtain ⟨lf, ks, vs, ids, key⟩ := d
    dsimp only at hd ⊢
    have hs := hd.1
    have q1 := sum_small ks hs.2.1
    have q2 := sum_small vs hs.2.2.2.1
    have b1 := hs.1
    have b2 := hs.2.2.1
    have b3 := hs.2.2.2.2
    refine EvP.bind (P := fun a => a = childM key 0 ks) (EvP.ev (impl_ChildOf_ev lf ks vs ids key (by omega)) rfl) (fun t ht => ?_)
    refine EvP.bind (spec_DrawSameNode_evp l hl2) (fun m hm => ?_)
    refine EvP.bind (P := fun a => a = childM key 0 ks) (EvP.ev (spec_ChildOf_ev lf ks vs ids key (by omega)) rfl) (fun u hu => ?_)
    rw [ht, hu]
    refine EvP.pos rfl ?_
    have m1 := hm.1.1
    have m2 := hm.1.2.2.1
    have m3 := hm.1.2.2.2.2
    refine EvP.bind (P := fun a => a = sameN m.1 m.2.1 m.2.2.1 m.2.2.2.1 m.2.2.2.2.1 m.2.2.2.2.2.1 m.2.2.2.2.2.2.1 m.2.2.2.2.2.2.2) (EvP.ev (impl_SameNode_ev _ _ _ _ _ _ _ _ (by omega) (by omega) (by omega)) rfl) (fun w1 hw1 => ?_)
    refine EvP.bind (P := fun a => a = sameN m.1 m.2.1 m.2.2.1 m.2.2.2.1 m.2.2.2.2.1 m.2.2.2.2.2.1 m.2.2.2.2.2.2.1 m.2.2.2.2.2.2.2) (EvP.ev (spec_SameNode_ev _ _ _ _ _ _ _ _ (by omega) (by omega) (by omega)) rfl) (fun w2 hw2 => ?_)
    rw [hw1, hw2]
    refine EvP.step (fun k => by rw [laws_FnChildren.j0]) (EvP.neg (by simp) ?_)
    refine EvP.bind (P := fun a => a = nodeOkM lf ks vs ids) (EvP.ev (spec_NodeOk_ev lf ks vs ids (by omega) (by omega) (by omega)) rfl) (fun ok hok => ?_)
    have bd := childM_bd key ks 0
    refine EvP.ite (fun g1 => ?_) (fun g1 => ?_)
    · have hr : risingM none ks = true := by
        rw [hok] at g1
        unfold nodeOkM at g1
        simp only [Bool.and_eq_true] at g1
        exact g1.1.1
      obtain ⟨c, e1, e2, e3, e4⟩ := childM_first key ks none 0 hr
      have e1' : childM key 0 ks = (c : Int) := by omega
      rw [e1']
      have last : c < ks.length → Op.bytesLess key.toList (rdOf ByteArray.empty ks (c : Int)).toList = true := by
        intro hc
        have hx : ks[c]? = some ks[c] := List.getElem?_eq_getElem hc
        rw [show rdOf ByteArray.empty ks (c : Int) = ks[c] from rdOf_at hx]
        exact e4 _ hx
      refine EvP.ite (fun g2 => ?_) (fun g2 => ?_)
      · refine EvP.ite (fun _ => EvP.some_ rfl) (fun g3 => ?_)
        exact EvP.pos (by omega) (EvP.pos (by omega) (EvP.some_ (last (by omega))))
      · rw [wrap_id (x := (c : Int) - 1) (by omega) (by omega)]
        refine EvP.pos (by omega) (EvP.pos (by omega) ?_)
        have ec : (c : Int) - 1 = ((c - 1 : Nat) : Int) := by omega
        have hx : ks[c - 1]? = some ks[c - 1] := List.getElem?_eq_getElem (by omega)
        rw [ec, show rdOf ByteArray.empty ks ((c - 1 : Nat) : Int) = ks[c - 1] from rdOf_at hx]
        refine EvP.neg (e3 _ (by omega) hx) ?_
        refine EvP.ite (fun _ => EvP.some_ rfl) (fun g3 => ?_)
        exact EvP.pos (by omega) (EvP.pos (by omega) (EvP.some_ (last (by omega))))
    · exact EvP.pos (by omega) (EvP.some_ (decide_eq_true (by omega)))
  obtain ⟨r, hr, rfl⟩ := e
  exact hr

end Go.Proofs.Ythpiinnmmdaloaa.Pure
