import Derived.Test.YtllgmgpfdnofmaaZSDPFnExactSameDefx9
import Derived.Test.YtllgmgpfdnofmaaZSDKit
import Derived.Test.YtllgmgpfdnofmaaZSDKitE
namespace Go.Proofs.Ytllgmgpfdnofmaa.Pure
open Go.RowKit Go.Proofs.Ytllgmgpfdnofmaa.PFnExactSameDef Go.Proofs.YtllgmgpfdnofmaaW.PrintWords Go.Proofs.YtllgmgpfdnofmaaW.PrintLast Go.Proofs.YtllgmgpfdnofmaaW.PrintMore Go.Proofs.Ytllgmgpfdnofmaa.Kit Go.Proofs.Ytllgmgpfdnofmaa.KitE
theorem laws_szCol_eq (s : ByteArray) (a : Int) (b : Bool) (left : Int) (h0 : 0 ≤ left) (h1 : left ≤ 1048576) (hs : s.size ≤ 140737488351232) : laws_szCol.f s a b left = some (szM left s.size) := by
  unfold laws_szCol.f szM
  rw [wrap_id (by omega) (by omega)]
  split <;> rfl
theorem laws_szColS_evp (l : List (S179)) (left : Int) (h0 : 0 ≤ left) (h1 : left ≤ 1048576) (hs : l.length ≤ 140737488351232) (he : ∀ x ∈ l, x.f0.size ≤ 140737488351232) :
    EvP (fun k => laws_szColS.f k l left) (fun r => -1 ≤ r ∧ r ≤ 1048576 ∧ (0 ≤ r → l.length ≤ 1048576)) := by
  unfold laws_szColS.f
  rw [wrap_id (by omega) (by omega)]
  refine EvP.ite (fun _ => EvP.some_ ⟨by omega, by omega, fun h => by omega⟩) (fun g => ?_)
  refine EvP.list (fun k s i => laws_szColS.l0 k l s i) l (fun s i => 0 ≤ s ∧ s ≤ 1048576) ?_ ?_ l.length 0 _ (by omega) ⟨by omega, by omega⟩
  · intro s hI
    refine EvP.step (fun k => by rw [laws_szColS.l0]) ?_
    exact EvP.neg (by omega) (EvP.some_ ⟨by omega, by omega, fun _ => by omega⟩)
  · intro s i x hI hi hx ih
    have hm := he x (List.mem_of_getElem? hx)
    refine EvP.step (fun k => by rw [laws_szColS.l0]) ?_
    refine EvP.pos (by omega) (EvP.pos (by omega) ?_)
    rw [wrap_succ (by omega), show rd_T179 l (i : Int) = x from getD_at hx]
    refine EvP.bind (P := fun a => a = szM s x.f0.size) (EvP.ev (ev_c (laws_szCol_eq x.f0 x.f1 x.f2 s hI.1 hI.2 hm)) rfl) (fun a ha => ?_)
    have z : -1 ≤ szM s x.f0.size ∧ szM s x.f0.size ≤ s := by unfold szM; split <;> omega
    rw [ha]
    exact EvP.ite (fun _ => EvP.some_ ⟨by omega, by omega, fun h => by omega⟩) (fun c => ih _ ⟨by omega, by omega⟩)
theorem laws_szByS_eq (l : List (S187)) (left : Int) (h0 : 0 ≤ left) (h1 : left ≤ 1048576) (hs : l.length ≤ 140737488351232) : laws_szByS.f l left = some (szM left l.length) := by
  unfold laws_szByS.f szM
  rw [wrap_id (by omega) (by omega)]
  split <;> rfl
theorem szM_of (left : Int) (n : Nat) (h0 : 0 ≤ left) : -1 ≤ szM left n ∧ szM left n ≤ left ∧ (0 ≤ szM left n → (n : Int) ≤ left) := by
  unfold szM; split <;> omega
theorem laws_szIndex_evp (s : ByteArray) (b : Bool) (l : List (S187)) (left : Int) (h0 : 0 ≤ left) (h1 : left ≤ 1048576) (hs : s.size ≤ 140737488351232) (hl : l.length ≤ 140737488351232) :
    EvP (fun _ => laws_szIndex.f s b l left) (fun r => -1 ≤ r ∧ r ≤ left ∧ (0 ≤ r → l.length ≤ 1048576)) := by
  unfold laws_szIndex.f
  rw [wrap_id (by omega) (by omega)]
  refine EvP.ite (fun _ => EvP.some_ ⟨by omega, by omega, fun h => by omega⟩) (fun g => ?_)
  have z := szM_of (left - s.size) l.length (by omega)
  refine EvP.bind (P := fun a => a = szM (left - s.size) l.length) (EvP.ev (ev_c (laws_szByS_eq l (left - s.size) (by omega) (by omega) hl)) rfl) (fun a ha => ?_)
  rw [ha]
  exact EvP.ite (fun _ => EvP.some_ ⟨by omega, by omega, fun h => by omega⟩) (fun c => EvP.some_ ⟨by omega, by omega, fun h => by omega⟩)
theorem laws_szIndexS_evp (l : List (S182)) (left : Int) (h0 : 0 ≤ left) (h1 : left ≤ 1048576) (hs : l.length ≤ 140737488351232) (he : ∀ x ∈ l, x.f0.size ≤ 140737488351232 ∧ x.f2.length ≤ 140737488351232) :
    EvP (fun k => laws_szIndexS.f k l left) (fun r => -1 ≤ r ∧ r ≤ 1048576 ∧ (0 ≤ r → l.length ≤ 1048576 ∧ ∀ x ∈ l, x.f2.length ≤ 1048576)) := by
  unfold laws_szIndexS.f
  rw [wrap_id (by omega) (by omega)]
  refine EvP.ite (fun _ => EvP.some_ ⟨by omega, by omega, fun h => by omega⟩) (fun g => ?_)
  refine EvP.list (fun k s i => laws_szIndexS.l0 k l s i) l (fun s i => 0 ≤ s ∧ s ≤ 1048576 ∧ ∀ x ∈ l.take i, x.f2.length ≤ 1048576) ?_ ?_ l.length 0 _ (by omega) ⟨by omega, by omega, by simp⟩
  · intro s hI
    have h3 := hI.2.2
    rw [List.take_length] at h3
    refine EvP.step (fun k => by rw [laws_szIndexS.l0]) ?_
    exact EvP.neg (by omega) (EvP.some_ ⟨by omega, by omega, fun _ => ⟨by omega, h3⟩⟩)
  · intro s i x hI hi hx ih
    have hm := he x (List.mem_of_getElem? hx)
    refine EvP.step (fun k => by rw [laws_szIndexS.l0]) ?_
    refine EvP.pos (by omega) (EvP.pos (by omega) ?_)
    rw [wrap_succ (by omega), show rd_T182 l (i : Int) = x from getD_at hx]
    refine EvP.bind (laws_szIndex_evp x.f0 x.f1 x.f2 s hI.1 hI.2.1 hm.1 hm.2) (fun a ha => ?_)
    exact EvP.ite (fun _ => EvP.some_ ⟨by omega, by omega, fun h => by omega⟩) (fun c => ih _ ⟨by omega, by omega, take_snoc hx hI.2.2 (ha.2.2 (by omega))⟩)
def defIn (s : ByteArray) (cs : List (S179)) (ps : List (S187)) (xs : List (S182)) : Prop :=
  s.size ≤ 140737488351232 ∧ cs.length ≤ 140737488351232 ∧ (∀ x ∈ cs, x.f0.size ≤ 140737488351232) ∧ ps.length ≤ 140737488351232 ∧ xs.length ≤ 140737488351232 ∧ (∀ x ∈ xs, x.f0.size ≤ 140737488351232 ∧ x.f2.length ≤ 140737488351232)
def defSmall (cs : List (S179)) (ps : List (S187)) (xs : List (S182)) : Prop :=
  cs.length ≤ 1048576 ∧ ps.length ≤ 1048576 ∧ xs.length ≤ 1048576 ∧ ∀ x ∈ xs, x.f2.length ≤ 1048576
theorem laws_szDef_evp (s : ByteArray) (cs : List (S179)) (ps : List (S187)) (xs : List (S182)) (left : Int) (h0 : 0 ≤ left) (h1 : left ≤ 1048576) (h : defIn s cs ps xs) :
    EvP (fun k => laws_szDef.f k s cs ps xs left) (fun r => -1 ≤ r ∧ r ≤ 1048576 ∧ (0 ≤ r → defSmall cs ps xs)) := by
  obtain ⟨hs, hc, hcs, hp, hx, hxs⟩ := h
  unfold laws_szDef.f
  rw [wrap_id (by omega) (by omega)]
  refine EvP.ite (fun _ => EvP.some_ ⟨by omega, by omega, fun h => by omega⟩) (fun g => ?_)
  refine EvP.bind (laws_szColS_evp cs _ (by omega) (by omega) hc hcs) (fun a ha => ?_)
  refine EvP.ite (fun _ => EvP.some_ ⟨by omega, by omega, fun h => by omega⟩) (fun g2 => ?_)
  have z := szM_of a ps.length (by omega)
  refine EvP.bind (P := fun b => b = szM a ps.length) (EvP.ev (ev_c (laws_szByS_eq ps a (by omega) (by omega) hp)) rfl) (fun b hb => ?_)
  rw [hb]
  refine EvP.ite (fun _ => EvP.some_ ⟨by omega, by omega, fun h => by omega⟩) (fun g3 => ?_)
  refine EvP.bind (laws_szIndexS_evp xs _ (by omega) (by omega) hx hxs) (fun c hc2 => ?_)
  exact EvP.ite (fun _ => EvP.some_ ⟨by omega, by omega, fun h => by omega⟩) (fun g4 => EvP.some_ ⟨hc2.1, hc2.2.1, fun h => ⟨ha.2.2 (by omega), by omega, (hc2.2.2 h).1, (hc2.2.2 h).2⟩⟩)
def samePt : List (S184) → List (S184) → Bool
  | x :: r, y :: s => if (!(x.f0 == y.f0) || (!(x.f1 == y.f1))) = true then false else samePt r s
  | _, _ => true
def samePts (a b : List (S184)) : Bool := if (a.length : Int) = (b.length : Int) then samePt a b else false
def sameCl : List (S146) → List (S146) → Bool
  | x :: r, y :: s => if (!((x.f0.toList) == (y.f0.toList)) || (!(x.f1 == y.f1) || (!(x.f2 == y.f2)))) = true then false else sameCl r s
  | _, _ => true
def sameXl : List (S148) → List (S148) → Bool
  | x :: r, y :: s => if x.f0.toList = y.f0.toList then (if (x.f1 != y.f1) = true then false else (if samePts x.f2 y.f2 = true then sameXl r s else false)) else false
  | _, _ => true
def sameD (a : ByteArray) (cs : List (S146)) (ps : List (S184)) (xs : List (S148)) (a2 : ByteArray) (cs2 : List (S146)) (ps2 : List (S184)) (xs2 : List (S148)) : Bool :=
  if a.toList = a2.toList then (if (cs.length : Int) = (cs2.length : Int) then (if (xs.length : Int) = (xs2.length : Int) then (if samePts ps ps2 = true then (if sameCl cs cs2 = true then sameXl xs xs2 else false) else false) else false) else false) else false
theorem spec_l9SameParts_ev (a b : List (S184)) (hl : a.length ≤ 1048576) : Ev (fun k => spec_l9SameParts.f k a b) (samePts a b) := by
  unfold spec_l9SameParts.f samePts
  refine ev_ite (fun h => ?_) (fun h => by rw [if_neg h]; exact ev_some rfl)
  rw [if_pos h]
  have g := ev_list0 (fun k i => spec_l9SameParts.l0 k a b i) a (fun i r => samePt r (b.drop i)) ?_ ?_
  · rw [List.drop_zero] at g; exact g
  · refine Ev.step (fun k => by rw [spec_l9SameParts.l0]) ?_
    refine ev_neg (by omega) (ev_some ?_)
    rw [samePt]
    simp
  · intro i x r hi hx hd ih
    have hb : i < b.length := by omega
    have hy : b[i]? = some b[i] := List.getElem?_eq_getElem hb
    rw [List.drop_eq_getElem_cons hb, samePt]
    generalize b[i] = y at hy
    refine Ev.step (fun k => by rw [spec_l9SameParts.l0]) ?_
    refine ev_pos (by omega) (ev_pos (by omega) (ev_pos (by omega) ?_))
    rw [wrap_succ (by omega), show rd_T184 a (i : Int) = x from getD_at hx, show rd_T184 b (i : Int) = y from getD_at hy]
    exact ev_ite (fun h => by rw [if_pos h]; exact ev_some rfl) (fun h => by rw [if_neg h]; exact ih)
theorem spec_SameDef_ev (a : ByteArray) (cs : List (S146)) (ps : List (S184)) (xs : List (S148)) (a2 : ByteArray) (cs2 : List (S146)) (ps2 : List (S184)) (xs2 : List (S148)) (h1 : cs.length ≤ 1048576) (h2 : ps.length ≤ 1048576) (h3 : xs.length ≤ 1048576) (h4 : ∀ x ∈ xs, x.f2.length ≤ 1048576) :
    Ev (fun k => spec_SameDef.f k a cs ps xs a2 cs2 ps2 xs2) (sameD a cs ps xs a2 cs2 ps2 xs2) := by
  have bad : Ev (fun k => spec_SameDef.j0 k true a cs ps xs a2 cs2 ps2 xs2) false := by
    refine Ev.step (fun k => by rw [spec_SameDef.j0]) ?_
    exact ev_pos rfl (ev_some rfl)
  unfold spec_SameDef.f sameD
  refine ev_ite (fun g => ?_) (fun g => by rw [if_neg g]; exact bad)
  rw [if_pos g]
  refine ev_ite (fun g1 => ?_) (fun g1 => by rw [if_neg g1]; exact bad)
  rw [if_pos g1]
  refine ev_ite (fun g2 => ?_) (fun g2 => by rw [if_neg g2]; exact bad)
  rw [if_pos g2]
  refine Ev.bind (spec_l9SameParts_ev ps ps2 h2) ?_
  by_cases g3 : samePts ps ps2 = true
  rotate_left
  · rw [if_neg g3, Bool.eq_false_iff.2 g3]; exact bad
  rw [if_pos g3, g3]
  refine Ev.step (fun k => by rw [spec_SameDef.j0]) ?_
  refine ev_neg (by simp) ?_
  have l1 : Ev (fun k => spec_SameDef.l1 k 0 a cs ps xs a2 cs2 ps2 xs2) (sameXl xs xs2) := by
    have g := ev_list0 (fun k i => spec_SameDef.l1 k i a cs ps xs a2 cs2 ps2 xs2) xs (fun i r => sameXl r (xs2.drop i)) ?_ ?_
    · rw [List.drop_zero] at g; exact g
    · refine Ev.step (fun k => by rw [spec_SameDef.l1]) ?_
      refine ev_neg (by omega) (ev_some ?_)
      rw [sameXl]
      simp
    · intro i x r hi hx hd ih
      have hb : i < xs2.length := by omega
      have hy : xs2[i]? = some xs2[i] := List.getElem?_eq_getElem hb
      rw [List.drop_eq_getElem_cons hb, sameXl]
      generalize xs2[i] = y at hy
      refine Ev.step (fun k => by rw [spec_SameDef.l1]) ?_
      refine ev_pos (by omega) (ev_pos (by omega) (ev_pos (by omega) ?_))
      rw [wrap_succ (by omega), show rd_T148 xs (i : Int) = x from getD_at hx, show rd_T148 xs2 (i : Int) = y from getD_at hy]
      refine ev_ite (fun c1 => ?_) (fun c1 => by rw [if_neg c1]; exact ev_some rfl)
      rw [if_pos c1]
      refine ev_ite (fun c2 => by rw [if_pos c2]; exact ev_some rfl) (fun c2 => ?_)
      rw [if_neg c2]
      refine Ev.bind (spec_l9SameParts_ev x.f2 y.f2 (h4 x (List.mem_of_getElem? hx))) ?_
      exact ev_ite (fun c3 => by rw [if_pos c3]; exact ih) (fun c3 => by rw [if_neg c3]; exact ev_some rfl)
  have g := ev_list0 (fun k i => spec_SameDef.l0 k i a cs ps xs a2 cs2 ps2 xs2) cs (fun i r => if sameCl r (cs2.drop i) = true then sameXl xs xs2 else false) ?_ ?_
  · rw [List.drop_zero] at g; exact g
  · refine Ev.step (fun k => by rw [spec_SameDef.l0]) ?_
    refine ev_neg (by omega) ?_
    rw [if_pos (by rw [sameCl]; simp)]
    exact l1
  · intro i x r hi hx hd ih
    have hb : i < cs2.length := by omega
    have hy : cs2[i]? = some cs2[i] := List.getElem?_eq_getElem hb
    rw [List.drop_eq_getElem_cons hb, sameCl]
    generalize cs2[i] = y at hy
    refine Ev.step (fun k => by rw [spec_SameDef.l0]) ?_
    refine ev_pos (by omega) (ev_pos (by omega) (ev_pos (by omega) ?_))
    rw [wrap_succ (by omega), show rd_T146 cs (i : Int) = x from getD_at hx, show rd_T146 cs2 (i : Int) = y from getD_at hy]
    refine ev_ite (fun c => ?_) (fun c => ?_)
    · rw [if_pos c, if_neg (by simp)]; exact ev_some rfl
    · rw [if_neg c]; exact ih
def cCol (x : S179) : S146 := ⟨x.f0, x.f1, x.f2⟩
theorem laws_toColS_ev (l : List (S179)) (hs : l.length ≤ 1048576) : Ev (fun k => laws_toColS.f k l) (l.map cCol) := by
  unfold laws_toColS.f
  refine ev_pos (by omega) (ev_pos (by omega) ?_)
  refine ev_fill (fun k s i => laws_toColS.l0 k l s i) l cCol ?_ ?_ _ (by simp)
  · intro s hI
    refine Ev.step (fun k => by rw [laws_toColS.l0]) ?_
    exact ev_neg (by omega) (ev_some rfl)
  · intro s i x r hI hi hx ih
    refine Ev.step (fun k => by rw [laws_toColS.l0]) ?_
    refine ev_pos (by omega) (ev_pos (by omega) ?_)
    rw [wrap_succ (by omega), show rd_T179 l (i : Int) = x from getD_at hx]
    refine Ev.bind (ev_c (show laws_toCol.f x.f0 x.f1 x.f2 = some (x.f0, x.f1, x.f2) from rfl)) ?_
    refine ev_pos (by omega) ?_
    exact ih
def cBy (x : S187) : S184 := ⟨x.f0, x.f1⟩
theorem laws_toByS_ev (l : List (S187)) (hs : l.length ≤ 1048576) : Ev (fun k => laws_toByS.f k l) (l.map cBy) := by
  unfold laws_toByS.f
  refine ev_pos (by omega) (ev_pos (by omega) ?_)
  refine ev_fill (fun k s i => laws_toByS.l0 k l s i) l cBy ?_ ?_ _ (by simp)
  · intro s hI
    refine Ev.step (fun k => by rw [laws_toByS.l0]) ?_
    exact ev_neg (by omega) (ev_some rfl)
  · intro s i x r hI hi hx ih
    refine Ev.step (fun k => by rw [laws_toByS.l0]) ?_
    refine ev_pos (by omega) (ev_pos (by omega) ?_)
    rw [wrap_succ (by omega), show rd_T187 l (i : Int) = x from getD_at hx]
    refine Ev.bind (ev_c (show laws_toBy.f x.f0 x.f1 = some (x.f0, x.f1) from rfl)) ?_
    refine ev_pos (by omega) ?_
    exact ih
def cIndex (x : S182) : S148 := ⟨x.f0, x.f1, x.f2.map cBy⟩
theorem laws_toIndexS_ev (l : List (S182)) (hs : l.length ≤ 1048576) (he : ∀ x ∈ l, x.f2.length ≤ 1048576) : Ev (fun k => laws_toIndexS.f k l) (l.map cIndex) := by
  unfold laws_toIndexS.f
  refine ev_pos (by omega) (ev_pos (by omega) ?_)
  refine ev_fill (fun k s i => laws_toIndexS.l0 k l s i) l cIndex ?_ ?_ _ (by simp)
  · intro s hI
    refine Ev.step (fun k => by rw [laws_toIndexS.l0]) ?_
    exact ev_neg (by omega) (ev_some rfl)
  · intro s i x r hI hi hx ih
    refine Ev.step (fun k => by rw [laws_toIndexS.l0]) ?_
    refine ev_pos (by omega) (ev_pos (by omega) ?_)
    rw [wrap_succ (by omega), show rd_T182 l (i : Int) = x from getD_at hx]
    have e : Ev (fun k => laws_toIndex.f k x.f0 x.f1 x.f2) (x.f0, x.f1, x.f2.map cBy) := by
      unfold laws_toIndex.f
      exact Ev.bind (laws_toByS_ev x.f2 (he x (List.mem_of_getElem? hx))) (ev_some rfl)
    exact Ev.bind e (ev_pos (by omega) ih)
theorem laws_toDef_ev (s : ByteArray) (cs : List (S179)) (ps : List (S187)) (xs : List (S182)) (h : defSmall cs ps xs) : Ev (fun k => laws_toDef.f k s cs ps xs) (s, cs.map cCol, ps.map cBy, xs.map cIndex) := by
  unfold laws_toDef.f
  exact Ev.bind (laws_toColS_ev cs h.1) (Ev.bind (laws_toByS_ev ps h.2.1) (Ev.bind (laws_toIndexS_ev xs h.2.2.1 h.2.2.2) (ev_some rfl)))
theorem impl_sameParts_ev (a b : List (S184)) (hl : a.length ≤ 1048576) : Ev (fun k => impl_sameParts.f k a b) (samePts a b) := by
  unfold impl_sameParts.f samePts
  refine ev_ite (fun h => ?_) (fun h => by rw [if_neg h]; exact ev_some rfl)
  rw [if_pos h]
  have g := ev_list0 (fun k i => impl_sameParts.l0 k a b (a.length : Int) i) a (fun i r => samePt r (b.drop i)) ?_ ?_
  · rw [List.drop_zero] at g; exact g
  · refine Ev.step (fun k => by rw [impl_sameParts.l0]) ?_
    refine ev_neg (by omega) (ev_some ?_)
    rw [samePt]
    simp
  · intro i x r hi hx hd ih
    have hb : i < b.length := by omega
    have hy : b[i]? = some b[i] := List.getElem?_eq_getElem hb
    rw [List.drop_eq_getElem_cons hb, samePt]
    generalize b[i] = y at hy
    refine Ev.step (fun k => by rw [impl_sameParts.l0]) ?_
    refine ev_pos (by omega) (ev_pos (by omega) (ev_pos (by omega) (ev_pos (by omega) ?_)))
    rw [wrap_succ (by omega), show rd_T184 a (i : Int) = x from getD_at hx, show rd_T184 b (i : Int) = y from getD_at hy]
    exact ev_ite (fun h => by rw [if_pos h]; exact ev_some rfl) (fun h => by rw [if_neg h]; exact ih)
theorem impl_SameDef_ev (a : ByteArray) (cs : List (S146)) (ps : List (S184)) (xs : List (S148)) (a2 : ByteArray) (cs2 : List (S146)) (ps2 : List (S184)) (xs2 : List (S148)) (h1 : cs.length ≤ 1048576) (h2 : ps.length ≤ 1048576) (h3 : xs.length ≤ 1048576) (h4 : ∀ x ∈ xs, x.f2.length ≤ 1048576) :
    Ev (fun k => impl_SameDef.f k a cs ps xs a2 cs2 ps2 xs2) (sameD a cs ps xs a2 cs2 ps2 xs2) := by
  have bad : Ev (fun k => impl_SameDef.j0 k true a cs ps xs a2 cs2 ps2 xs2) false := by
    refine Ev.step (fun k => by rw [impl_SameDef.j0]) ?_
    exact ev_pos rfl (ev_some rfl)
  unfold impl_SameDef.f sameD
  refine ev_ite (fun g => ?_) (fun g => by rw [if_neg g]; exact bad)
  rw [if_pos g]
  refine ev_ite (fun g1 => ?_) (fun g1 => by rw [if_neg g1]; exact bad)
  rw [if_pos g1]
  refine ev_ite (fun g2 => ?_) (fun g2 => by rw [if_neg g2]; exact bad)
  rw [if_pos g2]
  refine Ev.bind (impl_sameParts_ev ps ps2 h2) ?_
  by_cases g3 : samePts ps ps2 = true
  rotate_left
  · rw [if_neg g3, Bool.eq_false_iff.2 g3]; exact bad
  rw [if_pos g3, g3]
  refine Ev.step (fun k => by rw [impl_SameDef.j0]) ?_
  refine ev_neg (by simp) ?_
  have l1 : Ev (fun k => impl_SameDef.l1 k (xs.length : Int) 0 a cs ps xs a2 cs2 ps2 xs2) (sameXl xs xs2) := by
    have g := ev_list0 (fun k i => impl_SameDef.l1 k (xs.length : Int) i a cs ps xs a2 cs2 ps2 xs2) xs (fun i r => sameXl r (xs2.drop i)) ?_ ?_
    · rw [List.drop_zero] at g; exact g
    · refine Ev.step (fun k => by rw [impl_SameDef.l1]) ?_
      refine ev_neg (by omega) (ev_some ?_)
      rw [sameXl]
      simp
    · intro i x r hi hx hd ih
      have hb : i < xs2.length := by omega
      have hy : xs2[i]? = some xs2[i] := List.getElem?_eq_getElem hb
      rw [List.drop_eq_getElem_cons hb, sameXl]
      generalize xs2[i] = y at hy
      refine Ev.step (fun k => by rw [impl_SameDef.l1]) ?_
      refine ev_pos (by omega) (ev_pos (by omega) (ev_pos (by omega) (ev_pos (by omega) ?_)))
      rw [wrap_succ (by omega), show rd_T148 xs (i : Int) = x from getD_at hx, show rd_T148 xs2 (i : Int) = y from getD_at hy]
      refine ev_ite (fun c1 => ?_) (fun c1 => by rw [if_neg c1]; exact ev_some rfl)
      rw [if_pos c1]
      refine ev_ite (fun c2 => by rw [if_pos c2]; exact ev_some rfl) (fun c2 => ?_)
      rw [if_neg c2]
      refine Ev.bind (impl_sameParts_ev x.f2 y.f2 (h4 x (List.mem_of_getElem? hx))) ?_
      exact ev_ite (fun c3 => by rw [if_pos c3]; exact ih) (fun c3 => by rw [if_neg c3]; exact ev_some rfl)
  have g := ev_list0 (fun k i => impl_SameDef.l0 k (cs.length : Int) i a cs ps xs a2 cs2 ps2 xs2) cs (fun i r => if sameCl r (cs2.drop i) = true then sameXl xs xs2 else false) ?_ ?_
  · rw [List.drop_zero] at g; exact g
  · refine Ev.step (fun k => by rw [impl_SameDef.l0]) ?_
    refine ev_neg (by omega) ?_
    rw [if_pos (by rw [sameCl]; simp)]
    exact l1
  · intro i x r hi hx hd ih
    have hb : i < cs2.length := by omega
    have hy : cs2[i]? = some cs2[i] := List.getElem?_eq_getElem hb
    rw [List.drop_eq_getElem_cons hb, sameCl]
    generalize cs2[i] = y at hy
    refine Ev.step (fun k => by rw [impl_SameDef.l0]) ?_
    refine ev_pos (by omega) (ev_pos (by omega) (ev_pos (by omega) (ev_pos (by omega) ?_)))
    rw [wrap_succ (by omega), show rd_T146 cs (i : Int) = x from getD_at hx, show rd_T146 cs2 (i : Int) = y from getD_at hy]
    refine ev_ite (fun c => ?_) (fun c => ?_)
    · rw [if_pos c, if_neg (by simp)]; exact ev_some rfl
    · rw [if_neg c]; exact ih
theorem laws_eqCol_self (x : S146) : laws_eqCol.f x.f0 x.f1 x.f2 x.f0 x.f1 x.f2 = some true := by
  unfold laws_eqCol.f; simp
theorem laws_eqColS_self (l : List (S146)) (hs : l.length ≤ 281474976710656) : Ev (fun k => laws_eqColS.f k l l) true := by
  unfold laws_eqColS.f
  refine ev_pos rfl ?_
  refine ev_pass (fun k i => laws_eqColS.l0 k l l i) l true ?_ ?_
  · refine Ev.step (fun k => by rw [laws_eqColS.l0]) ?_
    exact ev_neg (by omega) (ev_some rfl)
  · intro i x hi hx ih
    refine Ev.step (fun k => by rw [laws_eqColS.l0]) ?_
    refine ev_pos (by omega) (ev_pos (by omega) (ev_pos (by omega) ?_))
    rw [wrap_succ (by omega)]
    refine Ev.bind (ev_c (laws_eqCol_self _)) ?_
    exact ev_pos rfl ih
theorem laws_eqBy_self (x : S184) : laws_eqBy.f x.f0 x.f1 x.f0 x.f1 = some true := by
  unfold laws_eqBy.f; simp
theorem laws_eqByS_self (l : List (S184)) (hs : l.length ≤ 281474976710656) : Ev (fun k => laws_eqByS.f k l l) true := by
  unfold laws_eqByS.f
  refine ev_pos rfl ?_
  refine ev_pass (fun k i => laws_eqByS.l0 k l l i) l true ?_ ?_
  · refine Ev.step (fun k => by rw [laws_eqByS.l0]) ?_
    exact ev_neg (by omega) (ev_some rfl)
  · intro i x hi hx ih
    refine Ev.step (fun k => by rw [laws_eqByS.l0]) ?_
    refine ev_pos (by omega) (ev_pos (by omega) (ev_pos (by omega) ?_))
    rw [wrap_succ (by omega)]
    refine Ev.bind (ev_c (laws_eqBy_self _)) ?_
    exact ev_pos rfl ih
theorem laws_eqIndexS_self (l : List (S148)) (hs : l.length ≤ 1048576) (he : ∀ x ∈ l, x.f2.length ≤ 1048576) : Ev (fun k => laws_eqIndexS.f k l l) true := by
  unfold laws_eqIndexS.f
  refine ev_pos rfl ?_
  refine ev_pass (fun k i => laws_eqIndexS.l0 k l l i) l true ?_ ?_
  · refine Ev.step (fun k => by rw [laws_eqIndexS.l0]) ?_
    exact ev_neg (by omega) (ev_some rfl)
  · intro i x hi hx ih
    refine Ev.step (fun k => by rw [laws_eqIndexS.l0]) ?_
    refine ev_pos (by omega) (ev_pos (by omega) (ev_pos (by omega) ?_))
    have hm := he x (List.mem_of_getElem? hx)
    rw [wrap_succ (by omega), show rd_T148 l (i : Int) = x from getD_at hx]
    have e : Ev (fun k => laws_eqIndex.f k x.f0 x.f1 x.f2 x.f0 x.f1 x.f2) true := by
      unfold laws_eqIndex.f
      refine ev_pos rfl (ev_neg (by simp) ?_)
      exact Ev.bind (laws_eqByS_self x.f2 (by omega)) (ev_pos rfl (ev_some rfl))
    exact Ev.bind e (ev_pos rfl ih)
theorem laws_eqDef_self (s : ByteArray) (cs : List (S179)) (ps : List (S187)) (xs : List (S182)) (h : defSmall cs ps xs) : Ev (fun k => laws_eqDef.f k s (cs.map cCol) (ps.map cBy) (xs.map cIndex) s (cs.map cCol) (ps.map cBy) (xs.map cIndex)) true := by
  obtain ⟨h1, h2, h3, h4⟩ := h
  unfold laws_eqDef.f
  refine ev_pos rfl ?_
  refine Ev.bind (laws_eqColS_self _ (by rw [List.length_map]; omega)) (ev_pos rfl ?_)
  refine Ev.bind (laws_eqByS_self _ (by rw [List.length_map]; omega)) (ev_pos rfl ?_)
  refine Ev.bind (laws_eqIndexS_self _ (by rw [List.length_map]; omega) ?_) (ev_pos rfl (ev_some rfl))
  intro x hx
  obtain ⟨y, hy, rfl⟩ := List.mem_map.1 hx
  show (y.f2.map cBy).length ≤ _
  rw [List.length_map]
  exact h4 y hy
theorem FnExactSameDef : ∀ (a0_0 : ByteArray) (l0_1 : List (S179)) (l0_2 : List (S187)) (l0_3 : List (S182)) (a1_0 : ByteArray) (l1_1 : List (S179)) (l1_2 : List (S187)) (l1_3 : List (S182)), a0_0.size ≤ 140737488351232 → (l0_1.length * 32 ≤ 140737488351232 ∧ ∀ e0 ∈ l0_1, (e0.f0.size ≤ 140737488351232 ∧ (-9223372036854775808 ≤ e0.f1 ∧ e0.f1 ≤ 9223372036854775807) ∧ True)) → (l0_2.length * 16 ≤ 140737488351232 ∧ ∀ e0 ∈ l0_2, ((-9223372036854775808 ≤ e0.f0 ∧ e0.f0 ≤ 9223372036854775807) ∧ True)) → (l0_3.length * 48 ≤ 140737488351232 ∧ ∀ e0 ∈ l0_3, (e0.f0.size ≤ 140737488351232 ∧ True ∧ (e0.f2.length * 16 ≤ 140737488351232 ∧ ∀ e1 ∈ e0.f2, ((-9223372036854775808 ≤ e1.f0 ∧ e1.f0 ≤ 9223372036854775807) ∧ True)))) → a1_0.size ≤ 140737488351232 → (l1_1.length * 32 ≤ 140737488351232 ∧ ∀ e0 ∈ l1_1, (e0.f0.size ≤ 140737488351232 ∧ (-9223372036854775808 ≤ e0.f1 ∧ e0.f1 ≤ 9223372036854775807) ∧ True)) → (l1_2.length * 16 ≤ 140737488351232 ∧ ∀ e0 ∈ l1_2, ((-9223372036854775808 ≤ e0.f0 ∧ e0.f0 ≤ 9223372036854775807) ∧ True)) → (l1_3.length * 48 ≤ 140737488351232 ∧ ∀ e0 ∈ l1_3, (e0.f0.size ≤ 140737488351232 ∧ True ∧ (e0.f2.length * 16 ≤ 140737488351232 ∧ ∀ e1 ∈ e0.f2, ((-9223372036854775808 ≤ e1.f0 ∧ e1.f0 ≤ 9223372036854775807) ∧ True)))) → ∃ k, laws_FnExactSameDef.f k a0_0 l0_1 l0_2 l0_3 a1_0 l1_1 l1_2 l1_3 = some true := by
  intro a cs ps xs a2 cs2 ps2 xs2 ha hc hp hx ha2 hc2 hp2 hx2
  refine Ev.rounds ?_
  have i1 : defIn a cs ps xs := ⟨ha, by omega, fun x h => (hc.2 x h).1, by omega, by omega, fun x h => ⟨(hx.2 x h).1, by have := (hx.2 x h).2.2.1; omega⟩⟩
  have i2 : defIn a2 cs2 ps2 xs2 := ⟨ha2, by omega, fun x h => (hc2.2 x h).1, by omega, by omega, fun x h => ⟨(hx2.2 x h).1, by have := (hx2.2 x h).2.2.1; omega⟩⟩
  have e : EvP (fun k => laws_FnExactSameDef.f k a cs ps xs a2 cs2 ps2 xs2) (fun r => r = true) := by
    unfold laws_FnExactSameDef.f
    refine EvP.bind (laws_szDef_evp a cs ps xs 1048576 (by omega) (by omega) i1) (fun r hr => ?_)
    refine EvP.ite (fun _ => EvP.some_ rfl) (fun g => ?_)
    refine EvP.bind (laws_szDef_evp a2 cs2 ps2 xs2 r (by omega) (by omega) i2) (fun r2 hr2 => ?_)
    refine EvP.ite (fun _ => EvP.some_ rfl) (fun g2 => ?_)
    have s1 := hr.2.2 (by omega)
    have s2 := hr2.2.2 (by omega)
    have t1 := laws_toDef_ev a cs ps xs s1
    have t2 := laws_toDef_ev a2 cs2 ps2 xs2 s2
    have q1 : ∀ x ∈ xs.map cIndex, x.f2.length ≤ 1048576 := by
      intro x hx
      obtain ⟨y, hy, rfl⟩ := List.mem_map.1 hx
      show (y.f2.map cBy).length ≤ _
      rw [List.length_map]
      exact s1.2.2.2 y hy
    have sp := spec_SameDef_ev a (cs.map cCol) (ps.map cBy) (xs.map cIndex) a2 (cs2.map cCol) (ps2.map cBy) (xs2.map cIndex) (by rw [List.length_map]; exact s1.1) (by rw [List.length_map]; exact s1.2.1) (by rw [List.length_map]; exact s1.2.2.1) q1
    have im := impl_SameDef_ev a (cs.map cCol) (ps.map cBy) (xs.map cIndex) a2 (cs2.map cCol) (ps2.map cBy) (xs2.map cIndex) (by rw [List.length_map]; exact s1.1) (by rw [List.length_map]; exact s1.2.1) (by rw [List.length_map]; exact s1.2.2.1) q1
    refine EvP.ev (a := true) ?_ rfl
    refine Ev.bind t1 (Ev.bind t2 (Ev.bind sp (Ev.bind t1 (Ev.bind t2 (Ev.bind im (ev_neg (by simp) ?_))))))
    refine Ev.bind t1 (Ev.bind (laws_eqDef_self a cs ps xs s1) (ev_pos rfl ?_))
    exact Ev.bind t2 (Ev.bind (laws_eqDef_self a2 cs2 ps2 xs2 s2) (ev_pos rfl (ev_some rfl)))
  obtain ⟨r, hr, rfl⟩ := e
  exact hr
end Go.Proofs.Ytllgmgpfdnofmaa.Pure
