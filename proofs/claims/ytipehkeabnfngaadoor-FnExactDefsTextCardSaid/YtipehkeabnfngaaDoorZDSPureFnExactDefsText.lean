import Derived.Test.YtipehkeabnfngaaDoorZDSPFnExactDefsTextx17
import Derived.Test.YtipehkeabnfngaaDoorZDSKit
import Derived.Test.YtipehkeabnfngaaDoorZDSKitE
namespace Go.Proofs.YtipehkeabnfngaaDoor.Pure
open Go.RowKit Go.Proofs.YtipehkeabnfngaaDoor.PFnExactDefsText Go.Proofs.YtipehkeabnfngaaDoorW.PrintWords Go.Proofs.YtipehkeabnfngaaDoorW.PrintLast Go.Proofs.YtipehkeabnfngaaDoorW.PrintMore Go.Proofs.YtipehkeabnfngaaDoor.Kit Go.Proofs.YtipehkeabnfngaaDoor.KitE
theorem laws_szCol_eq (s : ByteArray) (a : Int) (b : Bool) (left : Int) (h0 : 0 ≤ left) (h1 : left ≤ 1048576) (hs : s.size ≤ 140737488351232) : laws_szCol.f s a b left = some (szM left s.size) := by
  unfold laws_szCol.f szM
  rw [wrap_id (by omega) (by omega)]
  split <;> rfl
theorem laws_szColS_evp (l : List (S131)) (left : Int) (h0 : 0 ≤ left) (h1 : left ≤ 1048576) (hs : l.length ≤ 140737488351232) (he : ∀ x ∈ l, x.f0.size ≤ 140737488351232) :
    EvP (fun k => laws_szColS.f k l left) (fun r => -1 ≤ r ∧ r ≤ 1048576 ∧ (0 ≤ r → l.length ≤ 1048576)) := by
  unfold laws_szColS.f
  rw [wrap_id (by omega) (by omega)]
  refine EvP.ite (fun _ => EvP.some_ ⟨by omega, by omega, fun h => by omega⟩) (fun g => ?_)
  refine EvP.list (fun k s i => laws_szColS.l0 k l s i) l (fun s i => 0 ≤ s ∧ s ≤ 1048576) ?_ ?_ l.length 0 _ (by omega) ⟨by omega, by omega⟩
  · intro s hI
    refine EvP.step (fun k => by rw [laws_szColS.l0]) ?_
    exact EvP.neg (by omega) (EvP.some_ ⟨by omega, by omega, fun _ => by omega⟩)
  · intro s i x hI hi hx ih
    have hm := he x (List.mem_of_getElem? hx)
    refine EvP.step (fun k => by rw [laws_szColS.l0]) ?_
    refine EvP.pos (by omega) (EvP.pos (by omega) ?_)
    rw [wrap_succ (by omega), show rd_T131 l (i : Int) = x from getD_at hx]
    refine EvP.bind (P := fun a => a = szM s x.f0.size) (EvP.ev (ev_c (laws_szCol_eq x.f0 x.f1 x.f2 s hI.1 hI.2 hm)) rfl) (fun a ha => ?_)
    have z : -1 ≤ szM s x.f0.size ∧ szM s x.f0.size ≤ s := by unfold szM; split <;> omega
    rw [ha]
    exact EvP.ite (fun _ => EvP.some_ ⟨by omega, by omega, fun h => by omega⟩) (fun c => ih _ ⟨by omega, by omega⟩)
theorem laws_szByS_eq (l : List (S137)) (left : Int) (h0 : 0 ≤ left) (h1 : left ≤ 1048576) (hs : l.length ≤ 140737488351232) : laws_szByS.f l left = some (szM left l.length) := by
  unfold laws_szByS.f szM
  rw [wrap_id (by omega) (by omega)]
  split <;> rfl
theorem szM_of (left : Int) (n : Nat) (h0 : 0 ≤ left) : -1 ≤ szM left n ∧ szM left n ≤ left ∧ (0 ≤ szM left n → (n : Int) ≤ left) := by
  unfold szM; split <;> omega
theorem laws_szIndex_evp (s : ByteArray) (b : Bool) (l : List (S137)) (left : Int) (h0 : 0 ≤ left) (h1 : left ≤ 1048576) (hs : s.size ≤ 140737488351232) (hl : l.length ≤ 140737488351232) :
    EvP (fun _ => laws_szIndex.f s b l left) (fun r => -1 ≤ r ∧ r ≤ left ∧ (0 ≤ r → l.length ≤ 1048576)) := by
  unfold laws_szIndex.f
  rw [wrap_id (by omega) (by omega)]
  refine EvP.ite (fun _ => EvP.some_ ⟨by omega, by omega, fun h => by omega⟩) (fun g => ?_)
  have z := szM_of (left - s.size) l.length (by omega)
  refine EvP.bind (P := fun a => a = szM (left - s.size) l.length) (EvP.ev (ev_c (laws_szByS_eq l (left - s.size) (by omega) (by omega) hl)) rfl) (fun a ha => ?_)
  rw [ha]
  exact EvP.ite (fun _ => EvP.some_ ⟨by omega, by omega, fun h => by omega⟩) (fun c => EvP.some_ ⟨by omega, by omega, fun h => by omega⟩)
theorem laws_szIndexS_evp (l : List (S134)) (left : Int) (h0 : 0 ≤ left) (h1 : left ≤ 1048576) (hs : l.length ≤ 140737488351232) (he : ∀ x ∈ l, x.f0.size ≤ 140737488351232 ∧ x.f2.length ≤ 140737488351232) :
    EvP (fun k => laws_szIndexS.f k l left) (fun r => -1 ≤ r ∧ r ≤ 1048576 ∧ (0 ≤ r → l.length ≤ 1048576 ∧ ∀ x ∈ l, x.f2.length ≤ 1048576)) := by
  unfold laws_szIndexS.f
  rw [wrap_id (by omega) (by omega)]
  refine EvP.ite (fun _ => EvP.some_ ⟨by omega, by omega, fun h => by omega⟩) (fun g => ?_)
  refine EvP.list (fun k s i => laws_szIndexS.l0 k l s i) l (fun s i => 0 ≤ s ∧ s ≤ 1048576 ∧ ∀ x ∈ l.take i, x.f2.length ≤ 1048576) ?_ ?_ l.length 0 _ (by omega) ⟨by omega, by omega, by simp⟩
  · intro s hI
    have h3 := hI.2.2
    rw [List.take_length] at h3
    refine EvP.step (fun k => by rw [laws_szIndexS.l0]) ?_
    exact EvP.neg (by omega) (EvP.some_ ⟨by omega, by omega, fun _ => ⟨by omega, h3⟩⟩)
  · intro s i x hI hi hx ih
    have hm := he x (List.mem_of_getElem? hx)
    refine EvP.step (fun k => by rw [laws_szIndexS.l0]) ?_
    refine EvP.pos (by omega) (EvP.pos (by omega) ?_)
    rw [wrap_succ (by omega), show rd_T134 l (i : Int) = x from getD_at hx]
    refine EvP.bind (laws_szIndex_evp x.f0 x.f1 x.f2 s hI.1 hI.2.1 hm.1 hm.2) (fun a ha => ?_)
    exact EvP.ite (fun _ => EvP.some_ ⟨by omega, by omega, fun h => by omega⟩) (fun c => ih _ ⟨by omega, by omega, take_snoc hx hI.2.2 (ha.2.2 (by omega))⟩)
def defIn (s : ByteArray) (cs : List (S131)) (ps : List (S137)) (xs : List (S134)) : Prop :=
  s.size ≤ 140737488351232 ∧ cs.length ≤ 140737488351232 ∧ (∀ x ∈ cs, x.f0.size ≤ 140737488351232) ∧ ps.length ≤ 140737488351232 ∧ xs.length ≤ 140737488351232 ∧ (∀ x ∈ xs, x.f0.size ≤ 140737488351232 ∧ x.f2.length ≤ 140737488351232)
def defSmall (cs : List (S131)) (ps : List (S137)) (xs : List (S134)) : Prop :=
  cs.length ≤ 1048576 ∧ ps.length ≤ 1048576 ∧ xs.length ≤ 1048576 ∧ ∀ x ∈ xs, x.f2.length ≤ 1048576
theorem laws_szDef_evp (s : ByteArray) (cs : List (S131)) (ps : List (S137)) (xs : List (S134)) (left : Int) (h0 : 0 ≤ left) (h1 : left ≤ 1048576) (h : defIn s cs ps xs) :
    EvP (fun k => laws_szDef.f k s cs ps xs left) (fun r => -1 ≤ r ∧ r ≤ 1048576 ∧ (0 ≤ r → defSmall cs ps xs)) := by
  obtain ⟨hs, hc, hcs, hp, hx, hxs⟩ := h
  unfold laws_szDef.f
  rw [wrap_id (by omega) (by omega)]
  refine EvP.ite (fun _ => EvP.some_ ⟨by omega, by omega, fun h => by omega⟩) (fun g => ?_)
  refine EvP.bind (laws_szColS_evp cs _ (by omega) (by omega) hc hcs) (fun a ha => ?_)
  refine EvP.ite (fun _ => EvP.some_ ⟨by omega, by omega, fun h => by omega⟩) (fun g2 => ?_)
  have z := szM_of a ps.length (by omega)
  refine EvP.bind (P := fun b => b = szM a ps.length) (EvP.ev (ev_c (laws_szByS_eq ps a (by omega) (by omega) hp)) rfl) (fun b hb => ?_)
  rw [hb]
  refine EvP.ite (fun _ => EvP.some_ ⟨by omega, by omega, fun h => by omega⟩) (fun g3 => ?_)
  refine EvP.bind (laws_szIndexS_evp xs _ (by omega) (by omega) hx hxs) (fun c hc2 => ?_)
  exact EvP.ite (fun _ => EvP.some_ ⟨by omega, by omega, fun h => by omega⟩) (fun g4 => EvP.some_ ⟨hc2.1, hc2.2.1, fun h => ⟨ha.2.2 (by omega), by omega, (hc2.2.2 h).1, (hc2.2.2 h).2⟩⟩)
theorem laws_szDefS_evp (l : List (S46)) (left : Int) (h0 : 0 ≤ left) (h1 : left ≤ 1048576) (hs : l.length ≤ 140737488351232) (he : ∀ x ∈ l, defIn x.f0 x.f1 x.f2 x.f3) :
    EvP (fun k => laws_szDefS.f k l left) (fun r => -1 ≤ r ∧ r ≤ 1048576 ∧ (0 ≤ r → l.length ≤ 1048576 ∧ ∀ x ∈ l, defSmall x.f1 x.f2 x.f3)) := by
  unfold laws_szDefS.f
  rw [wrap_id (by omega) (by omega)]
  refine EvP.ite (fun _ => EvP.some_ ⟨by omega, by omega, fun h => by omega⟩) (fun g => ?_)
  refine EvP.list (fun k s i => laws_szDefS.l0 k l s i) l (fun s i => 0 ≤ s ∧ s ≤ 1048576 ∧ ∀ x ∈ l.take i, defSmall x.f1 x.f2 x.f3) ?_ ?_ l.length 0 _ (by omega) ⟨by omega, by omega, by simp⟩
  · intro s hI
    have h3 := hI.2.2
    rw [List.take_length] at h3
    refine EvP.step (fun k => by rw [laws_szDefS.l0]) ?_
    exact EvP.neg (by omega) (EvP.some_ ⟨by omega, by omega, fun _ => ⟨by omega, h3⟩⟩)
  · intro s i x hI hi hx ih
    have hm := he x (List.mem_of_getElem? hx)
    refine EvP.step (fun k => by rw [laws_szDefS.l0]) ?_
    refine EvP.pos (by omega) (EvP.pos (by omega) ?_)
    rw [wrap_succ (by omega), show rd_T46 l (i : Int) = x from getD_at hx]
    refine EvP.bind (laws_szDef_evp x.f0 x.f1 x.f2 x.f3 s hI.1 hI.2.1 hm) (fun a ha => ?_)
    exact EvP.ite (fun _ => EvP.some_ ⟨by omega, by omega, fun h => by omega⟩) (fun c => ih _ ⟨by omega, by omega, take_snoc hx hI.2.2 (ha.2.2 (by omega))⟩)
def cCol (x : S131) : S82 := ⟨x.f0, x.f1, x.f2⟩
theorem laws_toColS_ev (l : List (S131)) (hs : l.length ≤ 1048576) : Ev (fun k => laws_toColS.f k l) (l.map cCol) := by
  unfold laws_toColS.f
  refine ev_pos (by omega) (ev_pos (by omega) ?_)
  refine ev_fill (fun k s i => laws_toColS.l0 k l s i) l cCol ?_ ?_ _ (by simp)
  · intro s hI
    refine Ev.step (fun k => by rw [laws_toColS.l0]) ?_
    exact ev_neg (by omega) (ev_some rfl)
  · intro s i x r hI hi hx ih
    refine Ev.step (fun k => by rw [laws_toColS.l0]) ?_
    refine ev_pos (by omega) (ev_pos (by omega) ?_)
    rw [wrap_succ (by omega), show rd_T131 l (i : Int) = x from getD_at hx]
    refine Ev.bind (ev_c (show laws_toCol.f x.f0 x.f1 x.f2 = some (x.f0, x.f1, x.f2) from rfl)) ?_
    refine ev_pos (by omega) ?_
    exact ih
def cBy (x : S137) : S85 := ⟨x.f0, x.f1⟩
theorem laws_toByS_ev (l : List (S137)) (hs : l.length ≤ 1048576) : Ev (fun k => laws_toByS.f k l) (l.map cBy) := by
  unfold laws_toByS.f
  refine ev_pos (by omega) (ev_pos (by omega) ?_)
  refine ev_fill (fun k s i => laws_toByS.l0 k l s i) l cBy ?_ ?_ _ (by simp)
  · intro s hI
    refine Ev.step (fun k => by rw [laws_toByS.l0]) ?_
    exact ev_neg (by omega) (ev_some rfl)
  · intro s i x r hI hi hx ih
    refine Ev.step (fun k => by rw [laws_toByS.l0]) ?_
    refine ev_pos (by omega) (ev_pos (by omega) ?_)
    rw [wrap_succ (by omega), show rd_T137 l (i : Int) = x from getD_at hx]
    refine Ev.bind (ev_c (show laws_toBy.f x.f0 x.f1 = some (x.f0, x.f1) from rfl)) ?_
    refine ev_pos (by omega) ?_
    exact ih
def cIndex (x : S134) : S69 := ⟨x.f0, x.f1, x.f2.map cBy⟩
theorem laws_toIndexS_ev (l : List (S134)) (hs : l.length ≤ 1048576) (he : ∀ x ∈ l, x.f2.length ≤ 1048576) : Ev (fun k => laws_toIndexS.f k l) (l.map cIndex) := by
  unfold laws_toIndexS.f
  refine ev_pos (by omega) (ev_pos (by omega) ?_)
  refine ev_fill (fun k s i => laws_toIndexS.l0 k l s i) l cIndex ?_ ?_ _ (by simp)
  · intro s hI
    refine Ev.step (fun k => by rw [laws_toIndexS.l0]) ?_
    exact ev_neg (by omega) (ev_some rfl)
  · intro s i x r hI hi hx ih
    refine Ev.step (fun k => by rw [laws_toIndexS.l0]) ?_
    refine ev_pos (by omega) (ev_pos (by omega) ?_)
    rw [wrap_succ (by omega), show rd_T134 l (i : Int) = x from getD_at hx]
    have e : Ev (fun k => laws_toIndex.f k x.f0 x.f1 x.f2) (x.f0, x.f1, x.f2.map cBy) := by
      unfold laws_toIndex.f
      exact Ev.bind (laws_toByS_ev x.f2 (he x (List.mem_of_getElem? hx))) (ev_some rfl)
    exact Ev.bind e (ev_pos (by omega) ih)
theorem laws_toDef_ev (s : ByteArray) (cs : List (S131)) (ps : List (S137)) (xs : List (S134)) (h : defSmall cs ps xs) : Ev (fun k => laws_toDef.f k s cs ps xs) (s, cs.map cCol, ps.map cBy, xs.map cIndex) := by
  unfold laws_toDef.f
  exact Ev.bind (laws_toColS_ev cs h.1) (Ev.bind (laws_toByS_ev ps h.2.1) (Ev.bind (laws_toIndexS_ev xs h.2.2.1 h.2.2.2) (ev_some rfl)))
def cDef (x : S46) : S35 := ⟨x.f0, x.f1.map cCol, x.f2.map cBy, x.f3.map cIndex⟩
theorem laws_toDefS_ev (l : List (S46)) (hs : l.length ≤ 1048576) (he : ∀ x ∈ l, defSmall x.f1 x.f2 x.f3) : Ev (fun k => laws_toDefS.f k l) (l.map cDef) := by
  unfold laws_toDefS.f
  refine ev_pos (by omega) (ev_pos (by omega) ?_)
  refine ev_fill (fun k s i => laws_toDefS.l0 k l s i) l cDef ?_ ?_ _ (by simp)
  · intro s hI
    refine Ev.step (fun k => by rw [laws_toDefS.l0]) ?_
    exact ev_neg (by omega) (ev_some rfl)
  · intro s i x r hI hi hx ih
    refine Ev.step (fun k => by rw [laws_toDefS.l0]) ?_
    refine ev_pos (by omega) (ev_pos (by omega) ?_)
    rw [wrap_succ (by omega), show rd_T46 l (i : Int) = x from getD_at hx]
    exact Ev.bind (laws_toDef_ev x.f0 x.f1 x.f2 x.f3 (he x (List.mem_of_getElem? hx))) (ev_pos (by omega) ih)
theorem laws_eqCol_self (x : S82) : laws_eqCol.f x.f0 x.f1 x.f2 x.f0 x.f1 x.f2 = some true := by
  unfold laws_eqCol.f; simp
theorem laws_eqColS_self (l : List (S82)) (hs : l.length ≤ 281474976710656) : Ev (fun k => laws_eqColS.f k l l) true := by
  unfold laws_eqColS.f
  refine ev_pos rfl ?_
  refine ev_pass (fun k i => laws_eqColS.l0 k l l i) l true ?_ ?_
  · refine Ev.step (fun k => by rw [laws_eqColS.l0]) ?_
    exact ev_neg (by omega) (ev_some rfl)
  · intro i x hi hx ih
    refine Ev.step (fun k => by rw [laws_eqColS.l0]) ?_
    refine ev_pos (by omega) (ev_pos (by omega) (ev_pos (by omega) ?_))
    rw [wrap_succ (by omega)]
    refine Ev.bind (ev_c (laws_eqCol_self _)) ?_
    exact ev_pos rfl ih
theorem laws_eqBy_self (x : S85) : laws_eqBy.f x.f0 x.f1 x.f0 x.f1 = some true := by
  unfold laws_eqBy.f; simp
theorem laws_eqByS_self (l : List (S85)) (hs : l.length ≤ 281474976710656) : Ev (fun k => laws_eqByS.f k l l) true := by
  unfold laws_eqByS.f
  refine ev_pos rfl ?_
  refine ev_pass (fun k i => laws_eqByS.l0 k l l i) l true ?_ ?_
  · refine Ev.step (fun k => by rw [laws_eqByS.l0]) ?_
    exact ev_neg (by omega) (ev_some rfl)
  · intro i x hi hx ih
    refine Ev.step (fun k => by rw [laws_eqByS.l0]) ?_
    refine ev_pos (by omega) (ev_pos (by omega) (ev_pos (by omega) ?_))
    rw [wrap_succ (by omega)]
    refine Ev.bind (ev_c (laws_eqBy_self _)) ?_
    exact ev_pos rfl ih
theorem laws_eqIndexS_self (l : List (S69)) (hs : l.length ≤ 1048576) (he : ∀ x ∈ l, x.f2.length ≤ 1048576) : Ev (fun k => laws_eqIndexS.f k l l) true := by
  unfold laws_eqIndexS.f
  refine ev_pos rfl ?_
  refine ev_pass (fun k i => laws_eqIndexS.l0 k l l i) l true ?_ ?_
  · refine Ev.step (fun k => by rw [laws_eqIndexS.l0]) ?_
    exact ev_neg (by omega) (ev_some rfl)
  · intro i x hi hx ih
    refine Ev.step (fun k => by rw [laws_eqIndexS.l0]) ?_
    refine ev_pos (by omega) (ev_pos (by omega) (ev_pos (by omega) ?_))
    have hm := he x (List.mem_of_getElem? hx)
    rw [wrap_succ (by omega), show rd_T69 l (i : Int) = x from getD_at hx]
    have e : Ev (fun k => laws_eqIndex.f k x.f0 x.f1 x.f2 x.f0 x.f1 x.f2) true := by
      unfold laws_eqIndex.f
      refine ev_pos rfl (ev_neg (by simp) ?_)
      exact Ev.bind (laws_eqByS_self x.f2 (by omega)) (ev_pos rfl (ev_some rfl))
    exact Ev.bind e (ev_pos rfl ih)
theorem laws_eqDef_self (s : ByteArray) (cs : List (S131)) (ps : List (S137)) (xs : List (S134)) (h : defSmall cs ps xs) : Ev (fun k => laws_eqDef.f k s (cs.map cCol) (ps.map cBy) (xs.map cIndex) s (cs.map cCol) (ps.map cBy) (xs.map cIndex)) true := by
  obtain ⟨h1, h2, h3, h4⟩ := h
  unfold laws_eqDef.f
  refine ev_pos rfl ?_
  refine Ev.bind (laws_eqColS_self _ (by rw [List.length_map]; omega)) (ev_pos rfl ?_)
  refine Ev.bind (laws_eqByS_self _ (by rw [List.length_map]; omega)) (ev_pos rfl ?_)
  refine Ev.bind (laws_eqIndexS_self _ (by rw [List.length_map]; omega) ?_) (ev_pos rfl (ev_some rfl))
  intro x hx
  obtain ⟨y, hy, rfl⟩ := List.mem_map.1 hx
  show (y.f2.map cBy).length ≤ _
  rw [List.length_map]
  exact h4 y hy
theorem laws_eqDefS_self (l : List (S46)) (hs : l.length ≤ 1048576) (he : ∀ x ∈ l, defSmall x.f1 x.f2 x.f3) : Ev (fun k => laws_eqDefS.f k (l.map cDef) (l.map cDef)) true := by
  unfold laws_eqDefS.f
  refine ev_pos rfl ?_
  have ll : (l.map cDef).length = l.length := List.length_map ..
  refine ev_pass (fun k i => laws_eqDefS.l0 k (l.map cDef) (l.map cDef) i) (l.map cDef) true ?_ ?_
  · refine Ev.step (fun k => by rw [laws_eqDefS.l0]) ?_
    exact ev_neg (by omega) (ev_some rfl)
  · intro i x hi hx ih
    refine Ev.step (fun k => by rw [laws_eqDefS.l0]) ?_
    refine ev_pos (by omega) (ev_pos (by omega) (ev_pos (by omega) ?_))
    rw [wrap_succ (by omega), show rd_T35 (l.map cDef) (i : Int) = x from getD_at hx]
    obtain ⟨y, hy, rfl⟩ := List.mem_map.1 (List.mem_of_getElem? hx)
    exact Ev.bind (laws_eqDef_self y.f0 y.f1 y.f2 y.f3 (he y hy)) (ev_pos rfl ih)
theorem spec_l1In_eq (a b c : Int) : spec_l1In.f a b c = some (inB a b c) := by unfold spec_l1In.f inB; split <;> rfl
theorem spec_l8Small_eq (c : Int) (h : 0 ≤ c ∧ c ≤ 255) : spec_l8Small.f c = some (inB c 97 122) := by
  unfold spec_l8Small.f
  rw [wrap_id (by omega) (by omega), spec_l1In_eq]; rfl
theorem spec_l2Digit_eq (c : Int) (h : 0 ≤ c ∧ c ≤ 255) : spec_l2Digit.f c = some (inB c 48 57) := by
  unfold spec_l2Digit.f
  rw [wrap_id (by omega) (by omega), spec_l1In_eq]; rfl
theorem spec_l8Name_ev (s : ByteArray) (hs : s.size ≤ 140737488351232) : Ev (fun k => spec_l8Name.f k s) (nameM s.size 0 (bytesOf s)) := by
  refine ev_list0 (fun k i => spec_l8Name.l0 k s i) (bytesOf s) (nameM s.size) ?_ ?_
  · refine Ev.step (fun k => by rw [spec_l8Name.l0]) ?_
    refine ev_neg (by rw [size_len]; omega) ?_
    exact Ev.bind (ev_c (spec_l1In_eq _ _ _)) (ev_some rfl)
  · intro i x r hi hx hd ih
    have hb := bt_at' hx
    have hr := bt_range s (i : Int)
    refine Ev.step (fun k => by rw [spec_l8Name.l0]) ?_
    refine ev_pos (by rw [size_len]; omega) (ev_pos (by omega) ?_)
    rw [wrap_succ (by rw [bytesOf_length] at hi; omega)]
    rw [hb] at hr ⊢
    refine Ev.bind (ev_c (spec_l8Small_eq _ hr)) ?_
    unfold nameM
    by_cases c1 : inB x 97 122 = true
    · rw [if_pos c1]; exact ev_pos c1 ih
    · rw [if_neg c1]
      refine ev_neg c1 ?_
      by_cases c2 : i = 0
      · rw [if_pos c2]; exact ev_pos (by omega) (ev_some rfl)
      · rw [if_neg c2]
        refine ev_neg (by omega) (Ev.bind (ev_c (spec_l2Digit_eq _ hr)) ?_)
        by_cases c3 : inB x 48 57 = true
        · rw [if_pos c3]; exact ev_pos c3 ih
        · rw [if_neg c3]; exact ev_neg c3 (ev_some rfl)
theorem ev_stop {α β : Type} (L : Nat → Int → Option α) (l : List β) (p : β → Bool) (v R : α)
    (base : Ev (fun k => L k (l.length : Int)) R)
    (step : ∀ i x r, i < l.length → l[i]? = some x → Ev (fun k => L k ((i + 1 : Nat) : Int)) r → Ev (fun k => L k (i : Int)) (if p x = true then v else r)) :
    Ev (fun k => L k 0) (if l.any p = true then v else R) := by
  refine ev_eq (ev_list0 L l (fun _ r => if r.any p = true then v else R) (by simpa using base) (fun i x r hi hx _ ih => ?_)) rfl
  refine ev_eq (step i x _ hi hx ih) ?_
  simp only [List.any_cons, Bool.or_eq_true]
  by_cases h : p x = true <;> simp [h]
def wordsL : List ByteArray := [(⟨#[116, 97, 98, 108, 101]⟩ : ByteArray), (⟨#[112, 114, 105, 109, 97, 114, 121]⟩ : ByteArray), (⟨#[117, 110, 105, 113, 117, 101]⟩ : ByteArray), (⟨#[105, 110, 100, 101, 120]⟩ : ByteArray), (⟨#[110, 117, 108, 108]⟩ : ByteArray), (⟨#[100, 101, 115, 99]⟩ : ByteArray), (⟨#[105, 110, 116]⟩ : ByteArray), (⟨#[110, 117, 109]⟩ : ByteArray), (⟨#[116, 101, 120, 116]⟩ : ByteArray), (⟨#[98, 111, 111, 108]⟩ : ByteArray)]
def isT (a b : ByteArray) : Bool := decide (a.toList = b.toList)
def freeM (s : ByteArray) : Bool := if nameM s.size 0 (bytesOf s) = true then !(wordsL.any fun w => isT w s) else false
def namesM (a : ByteArray) (cs : List (S82)) (xs : List (S69)) : Bool :=
  if cs.all (fun c => freeM c.f0) = true then (if xs.all (fun x => freeM x.f0) = true then freeM a else false) else false
def typesM (cs : List (S82)) : Bool := if cs.all (fun c => inB c.f1 1 4) = true then inB cs.length 1 6 else false
def onceR : List ByteArray → List ByteArray → Bool
  | _, [] => true
  | p, x :: r => if p.any (fun y => isT y x) = true then false else onceR (p ++ [x]) r
def onceM (cs : List (S82)) (xs : List (S69)) : Bool := if onceR [] (cs.map (·.f0)) = true then onceR [] (xs.map (·.f0)) else false
def partsM (n : Int) (ps : List (S85)) : Bool := match ps with
  | [a] => inB a.f0 0 (n - 1)
  | [a, b] => if inB a.f0 0 (n - 1) = true then (if inB b.f0 0 (n - 1) = true then !decide (a.f0 = b.f0) else false) else false
  | _ => false
theorem partsM_in {n : Int} {ps : List (S85)} (h : partsM n ps = true) : ∀ p ∈ ps, 0 ≤ p.f0 ∧ p.f0 < n := by
  unfold partsM at h
  match ps, h with
  | [a], h => intro p hp; rw [List.mem_singleton] at hp; rw [hp]; have := inB_iff.1 h; omega
  | [a, b], h =>
    simp only at h
    split at h
    · rename_i h1
      split at h
      · rename_i h2
        have := inB_iff.1 h1
        have := inB_iff.1 h2
        intro p hp
        simp only [List.mem_cons, List.not_mem_nil, or_false] at hp
        rcases hp with e | e <;> rw [e] <;> omega
      · cases h
    · cases h
theorem partsM_not {n : Int} {ps : List (S85)} (h : ¬ inB ps.length 1 2 = true) : partsM n ps = false := by
  unfold partsM
  match ps, h with
  | [], _ => rfl
  | [a], h => exact absurd (inB_iff.2 (by simp)) h
  | [a, b], h => exact absurd (inB_iff.2 (by simp)) h
  | _ :: _ :: _ :: _, _ => rfl
def allPartsM (cs : List (S82)) (ps : List (S85)) (xs : List (S69)) : Bool :=
  if xs.all (fun x => partsM cs.length x.f2) = true then partsM cs.length ps else false
def nullAt (cs : List (S82)) (p : S85) : Bool := (rd_T82 cs p.f0).f2
def checkM (a : ByteArray) (cs : List (S82)) (ps : List (S85)) (xs : List (S69)) : Int :=
  if namesM a cs xs = true then (if typesM cs = true then (if onceM cs xs = true then (if (xs.length : Int) > 2 then 6 else if allPartsM cs ps xs = true then (if ps.any (nullAt cs) = true then 4 else 0) else 5) else 3) else 2) else 1
def defFits (a : ByteArray) (cs : List (S82)) (ps : List (S85)) (xs : List (S69)) : Prop :=
  a.size ≤ 140737488351232 ∧ cs.length ≤ 1048576 ∧ (∀ c ∈ cs, c.f0.size ≤ 140737488351232) ∧ ps.length ≤ 1048576 ∧ xs.length ≤ 1048576 ∧ ∀ x ∈ xs, x.f0.size ≤ 140737488351232 ∧ x.f2.length ≤ 1048576
theorem spec_l9Has_ev (l : List ByteArray) (s : ByteArray) (hl : l.length ≤ 1048576) : Ev (fun k => spec_l9Has.f k l s) (l.any fun w => isT w s) := by
  unfold spec_l9Has.f
  have g := ev_stop (fun k i => spec_l9Has.l0 k l s i) l (fun w => isT w s) true false ?_ ?_
  · refine ev_eq g ?_
    cases (l.any fun w => isT w s) <;> rfl
  · refine Ev.step (fun k => by rw [spec_l9Has.l0]) ?_
    exact ev_neg (by omega) (ev_some rfl)
  · intro i x r hi hx ih
    refine Ev.step (fun k => by rw [spec_l9Has.l0]) ?_
    refine ev_pos (by omega) (ev_pos (by omega) ?_)
    rw [wrap_succ (by omega), show rdOf ByteArray.empty l (i : Int) = x from getD_at hx]
    unfold isT
    exact ev_ite (fun h => by rw [decide_eq_true h]; exact ev_some rfl) (fun h => by rw [decide_eq_false h]; exact ih)
theorem spec_l9Word_ev (s : ByteArray) (hs : s.size ≤ 140737488351232) : Ev (fun k => spec_l9Word.f k s) (freeM s) := by
  unfold spec_l9Word.f freeM
  refine Ev.bind (spec_l8Name_ev s hs) (ev_ite (fun h => ?_) (fun h => by rw [if_neg h]; exact ev_some rfl))
  rw [if_pos h]
  exact Ev.bind (spec_l9Has_ev wordsL s (by decide)) (ev_some rfl)
theorem spec_l9Names_ev (a : ByteArray) (cs : List (S82)) (ps : List (S85)) (xs : List (S69)) (h : defFits a cs ps xs) : Ev (fun k => spec_l9Names.f k a cs ps xs) (namesM a cs xs) := by
  obtain ⟨ha, hc, hcs, hp, hx, hxs⟩ := h
  unfold spec_l9Names.f namesM
  have l1 : Ev (fun k => spec_l9Names.l1 k 0 a cs ps xs) (if xs.all (fun x => freeM x.f0) = true then freeM a else false) := by
    refine ev_all (fun k i => spec_l9Names.l1 k i a cs ps xs) xs (fun x => freeM x.f0) _ ?_ ?_
    · refine Ev.step (fun k => by rw [spec_l9Names.l1]) ?_
      exact ev_neg (by omega) (Ev.bind (spec_l9Word_ev a ha) (ev_some rfl))
    · intro i x r hi hx2 ih
      refine Ev.step (fun k => by rw [spec_l9Names.l1]) ?_
      refine ev_pos (by omega) (ev_pos (by omega) ?_)
      rw [wrap_succ (by omega), show rd_T69 xs (i : Int) = x from getD_at hx2]
      refine Ev.bind (spec_l9Word_ev x.f0 (hxs x (List.mem_of_getElem? hx2)).1) ?_
      exact ev_ite (fun c => by rw [if_pos c]; exact ih) (fun c => by rw [if_neg c]; exact ev_some rfl)
  refine ev_all (fun k i => spec_l9Names.l0 k i a cs ps xs) cs (fun x => freeM x.f0) _ ?_ ?_
  · refine Ev.step (fun k => by rw [spec_l9Names.l0]) ?_
    exact ev_neg (by omega) l1
  · intro i x r hi hx2 ih
    refine Ev.step (fun k => by rw [spec_l9Names.l0]) ?_
    refine ev_pos (by omega) (ev_pos (by omega) ?_)
    rw [wrap_succ (by omega), show rd_T82 cs (i : Int) = x from getD_at hx2]
    refine Ev.bind (spec_l9Word_ev x.f0 (hcs x (List.mem_of_getElem? hx2))) ?_
    exact ev_ite (fun c => by rw [if_pos c]; exact ih) (fun c => by rw [if_neg c]; exact ev_some rfl)
theorem spec_l9Types_ev (a : ByteArray) (cs : List (S82)) (ps : List (S85)) (xs : List (S69)) (hc : cs.length ≤ 1048576) : Ev (fun k => spec_l9Types.f k a cs ps xs) (typesM cs) := by
  unfold spec_l9Types.f typesM
  refine ev_all (fun k i => spec_l9Types.l0 k i a cs ps xs) cs (fun c => inB c.f1 1 4) _ ?_ ?_
  · refine Ev.step (fun k => by rw [spec_l9Types.l0]) ?_
    exact ev_neg (by omega) (Ev.bind (ev_c (spec_l1In_eq _ _ _)) (ev_some rfl))
  · intro i x r hi hx2 ih
    refine Ev.step (fun k => by rw [spec_l9Types.l0]) ?_
    refine ev_pos (by omega) (ev_pos (by omega) ?_)
    rw [wrap_succ (by omega), show rd_T82 cs (i : Int) = x from getD_at hx2]
    refine Ev.bind (ev_c (spec_l1In_eq _ _ _)) ?_
    exact ev_ite (fun c => by rw [if_pos c]; exact ih) (fun c => by rw [if_neg c]; exact ev_some rfl)
def firstI (s : ByteArray) : Int → List (S82) → Int
  | _, [] => -1
  | n, x :: r => if isT x.f0 s = true then n else firstI s (n + 1) r
theorem spec_l9Col_ev (a : ByteArray) (cs : List (S82)) (ps : List (S85)) (xs : List (S69)) (s : ByteArray) (hc : cs.length ≤ 1048576) : Ev (fun k => spec_l9Col.f k a cs ps xs s) (firstI s 0 cs) := by
  unfold spec_l9Col.f
  refine ev_list0 (fun k i => spec_l9Col.l0 k s i a cs ps xs) cs (fun i r => firstI s i r) ?_ ?_
  · refine Ev.step (fun k => by rw [spec_l9Col.l0]) ?_
    exact ev_neg (by omega) (ev_some rfl)
  · intro i x r hi hx hd ih
    refine Ev.step (fun k => by rw [spec_l9Col.l0]) ?_
    refine ev_pos (by omega) (ev_pos (by omega) ?_)
    rw [wrap_succ (by omega), show rd_T82 cs (i : Int) = x from getD_at hx, firstI]
    unfold isT
    refine ev_ite (fun h => by rw [decide_eq_true h]; exact ev_some rfl) (fun h => ?_)
    rw [decide_eq_false h]
    exact ih
theorem firstI_app (s : ByteArray) (x : S82) (r : List (S82)) (hx : isT x.f0 s = true) : ∀ (p : List (S82)) (n : Int), (p.any (fun y => isT y.f0 s) = true → firstI s n (p ++ x :: r) < n + p.length) ∧ (¬ p.any (fun y => isT y.f0 s) = true → firstI s n (p ++ x :: r) = n + p.length)
  | [], n => ⟨fun h => by simp at h, fun _ => by simp [firstI, hx]⟩
  | y :: p, n => by
    have ih := firstI_app s x r hx p (n + 1)
    rw [List.cons_append, firstI, List.any_cons, List.length_cons]
    by_cases c : isT y.f0 s = true
    · rw [if_pos c, c]
      exact ⟨fun _ => by omega, fun h => absurd rfl h⟩
    · rw [if_neg c, Bool.eq_false_iff.2 c, Bool.false_or]
      exact ⟨fun h => by have := ih.1 h; omega, fun h => by have := ih.2 h; omega⟩
theorem isT_self (a : ByteArray) : isT a a = true := by unfold isT; simp
theorem spec_l9Once_ev (a : ByteArray) (cs : List (S82)) (ps : List (S85)) (xs : List (S69)) (hc : cs.length ≤ 1048576) (hx : xs.length ≤ 1048576) : Ev (fun k => spec_l9Once.f k a cs ps xs) (onceM cs xs) := by
  unfold spec_l9Once.f onceM
  have l1 : Ev (fun k => spec_l9Once.l1 k 0 a cs ps xs) (onceR [] (xs.map (·.f0))) := by
    have g := ev_list0 (fun k i => spec_l9Once.l1 k i a cs ps xs) xs (fun i r => onceR ((xs.take i).map (·.f0)) (r.map (·.f0))) ?_ ?_
    · exact g
    · refine Ev.step (fun k => by rw [spec_l9Once.l1]) ?_
      exact ev_neg (by omega) (ev_some rfl)
    · intro i x r hi hx2 hd ih
      refine Ev.step (fun k => by rw [spec_l9Once.l1]) ?_
      refine ev_pos (by omega) ?_
      rw [List.map_cons, onceR, List.any_map]
      have tl : (xs.take i).length = i := by rw [List.length_take]; omega
      have e : (xs.take i).map (·.f0) ++ [x.f0] = (xs.take (i + 1)).map (·.f0) := by rw [List.take_add_one, hx2]; simp
      rw [e]
      refine ev_stop (fun k j => spec_l9Once.l2 k (i : Int) j a cs ps xs) (xs.take i) _ false _ ?_ ?_
      · refine Ev.step (fun k => by rw [spec_l9Once.l2]) ?_
        refine ev_neg (by omega) ?_
        rw [wrap_succ (by omega)]
        exact ih
      · intro j y r2 hj hy ih2
        have hy2 : xs[j]? = some y := by rw [List.getElem?_take] at hy; split at hy; exact hy; cases hy
        refine Ev.step (fun k => by rw [spec_l9Once.l2]) ?_
        refine ev_pos (by omega) (ev_pos (by omega) (ev_pos (by omega) (ev_pos (by omega) (ev_pos (by omega) ?_))))
        rw [wrap_succ (by omega), show rd_T69 xs (i : Int) = x from getD_at hx2, show rd_T69 xs (j : Int) = y from getD_at hy2]
        show Ev _ (if decide (y.f0.toList = x.f0.toList) = true then false else r2)
        exact ev_ite (fun h => by rw [decide_eq_true h]; exact ev_some rfl) (fun h => by rw [decide_eq_false h]; exact ih2)
  have g := ev_list0 (fun k i => spec_l9Once.l0 k i a cs ps xs) cs (fun i r => if onceR ((cs.take i).map (·.f0)) (r.map (·.f0)) = true then onceR [] (xs.map (·.f0)) else false) ?_ ?_
  · exact g
  · refine Ev.step (fun k => by rw [spec_l9Once.l0]) ?_
    refine ev_neg (by omega) ?_
    rw [List.map_nil, onceR, if_pos rfl]
    exact l1
  · intro i x r hi hx2 hd ih
    refine Ev.step (fun k => by rw [spec_l9Once.l0]) ?_
    refine ev_pos (by omega) (ev_pos (by omega) ?_)
    rw [wrap_succ (by omega), show rd_T82 cs (i : Int) = x from getD_at hx2]
    refine Ev.bind (spec_l9Col_ev a cs ps xs x.f0 hc) ?_
    have tl : (cs.take i).length = i := by rw [List.length_take]; omega
    have e : (cs.take i).map (·.f0) ++ [x.f0] = (cs.take (i + 1)).map (·.f0) := by rw [List.take_add_one, hx2]; simp
    have sp : cs = cs.take i ++ x :: r := by rw [← hd, List.take_append_drop]
    have f := firstI_app x.f0 x r (isT_self _) (cs.take i) 0
    rw [← sp, tl] at f
    rw [List.map_cons, onceR, List.any_map, e]
    by_cases c : (cs.take i).any (fun y => isT y.f0 x.f0) = true
    · rw [if_pos (show (cs.take i).any ((fun y => isT y x.f0) ∘ (·.f0)) = true from c), if_neg (by simp)]
      exact ev_neg (by have := f.1 c; omega) (ev_some rfl)
    · rw [if_neg (show ¬ (cs.take i).any ((fun y => isT y x.f0) ∘ (·.f0)) = true from c)]
      exact ev_pos (by have := f.2 c; omega) ih
theorem spec_l9Parts_ev (a : ByteArray) (cs : List (S82)) (ps : List (S85)) (xs : List (S69)) (l : List (S85)) (hc : cs.length ≤ 1048576) (hl : l.length ≤ 1048576) : Ev (fun k => spec_l9Parts.f k a cs ps xs l) (partsM cs.length l) := by
  unfold spec_l9Parts.f
  have wr : wrap64 ((cs.length : Int) - 1) = (cs.length : Int) - 1 := wrap_id (by omega) (by omega)
  have w1 : wrap64 ((0 : Int) + 1) = 1 := wrap_id (by omega) (by omega)
  have w2 : wrap64 ((1 : Int) + 1) = 2 := wrap_id (by omega) (by omega)
  by_cases h : inB l.length 1 2 = true
  · match l, h with
    | [x], _ =>
      have r0 : rd_T85 [x] 0 = x := rfl
      refine Ev.step (fun k => by rw [spec_l9Parts.l0]) ?_
      refine ev_pos (by simp) (ev_pos (by simp) ?_)
      rw [wr, w1, r0]
      refine Ev.bind (ev_c (spec_l1In_eq _ _ _)) ?_
      show Ev _ (inB x.f0 0 ((cs.length : Int) - 1))
      refine ev_ite (fun c => ?_) (fun c => by rw [Bool.eq_false_iff.2 c]; exact ev_some rfl)
      rw [c]
      refine ev_neg (by simp) ?_
      refine Ev.step (fun k => by rw [spec_l9Parts.l0]) ?_
      refine ev_neg (by simp) ?_
      exact Ev.bind (ev_c (spec_l1In_eq _ _ _)) (ev_some rfl)
    | [x, y], _ =>
      have r0 : rd_T85 [x, y] 0 = x := rfl
      have r1 : rd_T85 [x, y] 1 = y := rfl
      refine Ev.step (fun k => by rw [spec_l9Parts.l0]) ?_
      refine ev_pos (by simp) (ev_pos (by simp) ?_)
      rw [wr, w1, r0]
      refine Ev.bind (ev_c (spec_l1In_eq _ _ _)) ?_
      show Ev _ (if inB x.f0 0 ((cs.length : Int) - 1) = true then (if inB y.f0 0 ((cs.length : Int) - 1) = true then !decide (x.f0 = y.f0) else false) else false)
      refine ev_ite (fun c => ?_) (fun c => by rw [if_neg c]; exact ev_some rfl)
      rw [if_pos c]
      refine ev_neg (by simp) ?_
      refine Ev.step (fun k => by rw [spec_l9Parts.l0]) ?_
      refine ev_pos (by simp) (ev_pos (by simp) ?_)
      rw [wr, w2, r0, r1]
      refine Ev.bind (ev_c (spec_l1In_eq _ _ _)) ?_
      refine ev_ite (fun c2 => ?_) (fun c2 => by rw [if_neg c2]; exact ev_some rfl)
      rw [if_pos c2]
      refine ev_pos (by simp) (ev_pos (by simp) ?_)
      refine ev_ite (fun c3 => by rw [decide_eq_true c3]; exact ev_some rfl) (fun c3 => ?_)
      rw [decide_eq_false c3]
      refine Ev.step (fun k => by rw [spec_l9Parts.l0]) ?_
      refine ev_neg (by simp) ?_
      exact Ev.bind (ev_c (spec_l1In_eq _ _ _)) (ev_some rfl)
    | [], h => exact absurd h (by decide)
    | _ :: _ :: _ :: r, h => exact absurd (inB_iff.1 h).2 (by simp only [List.length_cons]; omega)
  · rw [partsM_not h]
    refine ev_pass (fun k i => spec_l9Parts.l0 k l i a cs ps xs) l false ?_ ?_
    · refine Ev.step (fun k => by rw [spec_l9Parts.l0]) ?_
      refine ev_neg (by omega) (Ev.bind (ev_c (spec_l1In_eq _ _ _)) (ev_some ?_))
      exact Bool.eq_false_iff.2 h
    · intro i x hi hx ih
      refine Ev.step (fun k => by rw [spec_l9Parts.l0]) ?_
      refine ev_pos (by omega) (ev_pos (by omega) ?_)
      rw [wrap_succ (by omega), show rd_T85 l (i : Int) = x from getD_at hx]
      refine Ev.bind (ev_c (spec_l1In_eq _ _ _)) ?_
      refine ev_ite (fun _ => ?_) (fun _ => ev_some rfl)
      refine ev_ite (fun _ => ?_) (fun _ => ih)
      exact ev_pos (by omega) (ev_ite (fun _ => ev_some rfl) (fun _ => ih))
theorem spec_l9AllParts_ev (a : ByteArray) (cs : List (S82)) (ps : List (S85)) (xs : List (S69)) (h : defFits a cs ps xs) : Ev (fun k => spec_l9AllParts.f k a cs ps xs) (allPartsM cs ps xs) := by
  obtain ⟨ha, hc, hcs, hp, hx, hxs⟩ := h
  unfold spec_l9AllParts.f allPartsM
  refine ev_all (fun k i => spec_l9AllParts.l0 k i a cs ps xs) xs (fun x => partsM cs.length x.f2) _ ?_ ?_
  · refine Ev.step (fun k => by rw [spec_l9AllParts.l0]) ?_
    exact ev_neg (by omega) (Ev.bind (spec_l9Parts_ev a cs ps xs ps hc hp) (ev_some rfl))
  · intro i x r hi hx2 ih
    refine Ev.step (fun k => by rw [spec_l9AllParts.l0]) ?_
    refine ev_pos (by omega) (ev_pos (by omega) ?_)
    rw [wrap_succ (by omega), show rd_T69 xs (i : Int) = x from getD_at hx2]
    refine Ev.bind (spec_l9Parts_ev a cs ps xs x.f2 hc (hxs x (List.mem_of_getElem? hx2)).2) ?_
    exact ev_ite (fun c => by rw [if_pos c]; exact ih) (fun c => by rw [if_neg c]; exact ev_some rfl)
theorem spec_CheckDef_ev (a : ByteArray) (cs : List (S82)) (ps : List (S85)) (xs : List (S69)) (h : defFits a cs ps xs) : Ev (fun k => spec_CheckDef.f k a cs ps xs) (checkM a cs ps xs) := by
  have ⟨ha, hc, hcs, hp, hx, hxs⟩ := h
  unfold spec_CheckDef.f checkM
  refine Ev.bind (spec_l9Names_ev a cs ps xs h) (ev_ite (fun c => ?_) (fun c => by rw [if_neg c]; exact ev_some rfl))
  rw [if_pos c]
  refine Ev.bind (spec_l9Types_ev a cs ps xs hc) (ev_ite (fun c => ?_) (fun c => by rw [if_neg c]; exact ev_some rfl))
  rw [if_pos c]
  refine Ev.bind (spec_l9Once_ev a cs ps xs hc hx) (ev_ite (fun c => ?_) (fun c => by rw [if_neg c]; exact ev_some rfl))
  rw [if_pos c]
  refine ev_ite (fun c => by rw [if_pos c]; exact ev_some rfl) (fun c => ?_)
  rw [if_neg c]
  refine Ev.bind (spec_l9AllParts_ev a cs ps xs h) (ev_ite (fun c => ?_) (fun c => by rw [if_neg c]; exact ev_some rfl))
  rw [if_pos c]
  have pin : ∀ p ∈ ps, 0 ≤ p.f0 ∧ p.f0 < cs.length := by
    unfold allPartsM at c
    split at c
    · exact partsM_in c
    · cases c
  refine ev_stop (fun k i => spec_CheckDef.l0 k i a cs ps xs) ps (nullAt cs) 4 0 ?_ ?_
  · refine Ev.step (fun k => by rw [spec_CheckDef.l0]) ?_
    exact ev_neg (by omega) (ev_some rfl)
  · intro i x r hi hx2 ih
    have q := pin x (List.mem_of_getElem? hx2)
    refine Ev.step (fun k => by rw [spec_CheckDef.l0]) ?_
    refine ev_pos (by omega) (ev_pos (by omega) ?_)
    rw [wrap_succ (by omega), show rd_T85 ps (i : Int) = x from getD_at hx2]
    refine ev_pos q.1 (ev_pos q.2 ?_)
    exact ev_ite (fun c => by rw [if_pos (show nullAt cs x = true from c)]; exact ev_some rfl) (fun c => by rw [if_neg (show ¬ nullAt cs x = true from c)]; exact ih)
theorem nameM_end (n : Int) : ∀ (l : List Int) (i : Nat), nameM n i l = true → inB n 1 8 = true
  | [], _, h => h
  | x :: r, i, h => by
    rw [nameM] at h
    split at h
    · exact nameM_end n r (i + 1) h
    · split at h
      · cases h
      · split at h
        · exact nameM_end n r (i + 1) h
        · cases h
theorem freeM_size {s : ByteArray} (h : freeM s = true) : s.size ≤ 8 := by
  unfold freeM at h
  split at h
  · rename_i c
    have := (inB_iff.1 (nameM_end _ _ _ c)).2
    omega
  · cases h
theorem checkM_good {a : ByteArray} {cs : List (S82)} {ps : List (S85)} {xs : List (S69)} (h : checkM a cs ps xs = 0) :
    a.size ≤ 8 ∧ (∀ c ∈ cs, c.f0.size ≤ 8 ∧ 1 ≤ c.f1 ∧ c.f1 ≤ 4) ∧ cs.length ≤ 6 ∧ xs.length ≤ 2 ∧ partsM cs.length ps = true ∧ ∀ x ∈ xs, x.f0.size ≤ 8 ∧ partsM cs.length x.f2 = true := by
  unfold checkM at h
  split at h
  rotate_left
  · omega
  rename_i h1
  split at h
  rotate_left
  · omega
  rename_i h2
  split at h
  rotate_left
  · omega
  split at h
  · omega
  rename_i h4
  split at h
  rotate_left
  · omega
  rename_i h5
  unfold namesM at h1
  split at h1
  rotate_left
  · cases h1
  rename_i n1
  split at h1
  rotate_left
  · cases h1
  rename_i n2
  unfold typesM at h2
  split at h2
  rotate_left
  · cases h2
  rename_i t1
  unfold allPartsM at h5
  split at h5
  rotate_left
  · cases h5
  rename_i p1
  have t2 := (inB_iff.1 h2).2
  refine ⟨freeM_size h1, fun c hc => ⟨freeM_size (List.all_eq_true.1 n1 c hc), inB_iff.1 (List.all_eq_true.1 t1 c hc)⟩, by omega, by omega, h5, fun x hx => ⟨freeM_size (List.all_eq_true.1 n2 x hx), List.all_eq_true.1 p1 x hx⟩⟩
def tyL : List ByteArray := [(⟨#[]⟩ : ByteArray), (⟨#[105, 110, 116]⟩ : ByteArray), (⟨#[110, 117, 109]⟩ : ByteArray), (⟨#[116, 101, 120, 116]⟩ : ByteArray), (⟨#[98, 111, 111, 108]⟩ : ByteArray)]
theorem tyL_size (t : Int) (h0 : 1 ≤ t) (h1 : t ≤ 4) : (rdOf ByteArray.empty tyL t).size ≤ 4 := by
  have : t = 1 ∨ t = 2 ∨ t = 3 ∨ t = 4 := by omega
  rcases this with e | e | e | e <;> rw [e] <;> decide
theorem ba_assoc (a b c : ByteArray) : a ++ b ++ c = a ++ (b ++ c) := by
  apply ByteArray.ext
  simp only [ByteArray.data_append, Array.append_assoc]
theorem ba_nil (a : ByteArray) : (⟨#[]⟩ : ByteArray) ++ a = a := by
  apply ByteArray.ext
  simp only [ByteArray.data_append, Array.empty_append]
def partOne (cs : List (S82)) (p : S85) : ByteArray := if p.f1 = true then (rd_T82 cs p.f0).f0 ++ (⟨#[32, 100, 101, 115, 99]⟩ : ByteArray) else (rd_T82 cs p.f0).f0
def partTx (cs : List (S82)) (ps : List (S85)) : ByteArray := match ps with
  | [p] => partOne cs p ++ (⟨#[59, 32]⟩ : ByteArray)
  | [p, q] => ((partOne cs p ++ (⟨#[44, 32]⟩ : ByteArray)) ++ partOne cs q) ++ (⟨#[59, 32]⟩ : ByteArray)
  | _ => (⟨#[]⟩ : ByteArray)
def namesS (cs : List (S82)) : Prop := ∀ c ∈ cs, c.f0.size ≤ 8
theorem rd_small {cs : List (S82)} (hc : namesS cs) (i : Int) (h0 : 0 ≤ i) (h1 : i < cs.length) : (rd_T82 cs i).f0.size ≤ 8 := by
  have hx : cs[i.toNat]? = some cs[i.toNat] := List.getElem?_eq_getElem (by omega)
  have e : rd_T82 cs i = cs[i.toNat] := by
    have := getD_at (z := z82) hx
    rw [show ((i.toNat : Nat) : Int) = i by omega] at this
    exact this
  rw [e]
  exact hc _ (List.getElem_mem _)
theorem partOne_size {cs : List (S82)} (hc : namesS cs) (p : S85) (h0 : 0 ≤ p.f0) (h1 : p.f0 < cs.length) : (partOne cs p).size ≤ 13 := by
  have := rd_small hc p.f0 h0 h1
  have z : (⟨#[32, 100, 101, 115, 99]⟩ : ByteArray).size = 5 := rfl
  unfold partOne
  split
  · rw [ByteArray.size_append]; omega
  · omega
theorem partTx_size {cs : List (S82)} (hc : namesS cs) (ps : List (S85)) (h : partsM cs.length ps = true) : (partTx cs ps).size ≤ 30 := by
  have pin := partsM_in h
  have z1 : (⟨#[59, 32]⟩ : ByteArray).size = 2 := rfl
  have z2 : (⟨#[44, 32]⟩ : ByteArray).size = 2 := rfl
  match ps, h with
  | [p], _ =>
    have p1 := pin p (by simp)
    have := partOne_size hc p p1.1 p1.2
    simp only [partTx, ByteArray.size_append]
    omega
  | [p, q], _ =>
    have p1 := pin p (by simp)
    have q1 := pin q (by simp)
    have := partOne_size hc p p1.1 p1.2
    have := partOne_size hc q q1.1 q1.2
    simp only [partTx, ByteArray.size_append]
    omega
def colS (s : ByteArray) (c : S82) : ByteArray := (if c.f2 = true then (s ++ ((c.f0 ++ (⟨#[32]⟩ : ByteArray)) ++ rdOf ByteArray.empty tyL c.f1)) ++ (⟨#[32, 110, 117, 108, 108]⟩ : ByteArray) else s ++ ((c.f0 ++ (⟨#[32]⟩ : ByteArray)) ++ rdOf ByteArray.empty tyL c.f1)) ++ (⟨#[59, 32]⟩ : ByteArray)
def idxS (cs : List (S82)) (s : ByteArray) (x : S69) : ByteArray := s ++ ((((if x.f1 = true then (⟨#[117, 110, 105, 113, 117, 101, 32]⟩ : ByteArray) else (⟨#[105, 110, 100, 101, 120, 32]⟩ : ByteArray)) ++ x.f0) ++ (⟨#[32]⟩ : ByteArray)) ++ partTx cs x.f2)
def restTx (cs : List (S82)) (ps : List (S85)) (xs : List (S69)) (s : ByteArray) : ByteArray :=
  xs.foldl (idxS cs) (s ++ ((⟨#[112, 114, 105, 109, 97, 114, 121, 32]⟩ : ByteArray) ++ partTx cs ps)) ++ (⟨#[125]⟩ : ByteArray)
def defTx (a : ByteArray) (cs : List (S82)) (ps : List (S85)) (xs : List (S69)) : ByteArray :=
  if checkM a cs ps xs = 0 then restTx cs ps xs (cs.foldl colS (((⟨#[116, 97, 98, 108, 101, 32]⟩ : ByteArray) ++ a) ++ (⟨#[32, 123, 32]⟩ : ByteArray))) else (⟨#[]⟩ : ByteArray)
theorem colS_size (s : ByteArray) (c : S82) (h : c.f0.size ≤ 8 ∧ 1 ≤ c.f1 ∧ c.f1 ≤ 4) : (colS s c).size ≤ s.size + 30 := by
  have t := tyL_size c.f1 h.2.1 h.2.2
  have z1 : (⟨#[32]⟩ : ByteArray).size = 1 := rfl
  have z2 : (⟨#[32, 110, 117, 108, 108]⟩ : ByteArray).size = 5 := rfl
  have z3 : (⟨#[59, 32]⟩ : ByteArray).size = 2 := rfl
  unfold colS
  split <;> simp only [ByteArray.size_append] <;> omega
theorem idxS_size {cs : List (S82)} (hc : namesS cs) (s : ByteArray) (x : S69) (h : x.f0.size ≤ 8 ∧ partsM cs.length x.f2 = true) : (idxS cs s x).size ≤ s.size + 60 := by
  have t := partTx_size hc x.f2 h.2
  have z1 : (⟨#[32]⟩ : ByteArray).size = 1 := rfl
  have z2 : (⟨#[117, 110, 105, 113, 117, 101, 32]⟩ : ByteArray).size = 7 := rfl
  have z3 : (⟨#[105, 110, 100, 101, 120, 32]⟩ : ByteArray).size = 6 := rfl
  unfold idxS
  split <;> simp only [ByteArray.size_append] <;> omega
theorem spec_l9Type_eq (t : Int) (h0 : 1 ≤ t) (h1 : t ≤ 4) : spec_l9Type.f t = some (rdOf ByteArray.empty tyL t) := by
  have : t = 1 ∨ t = 2 ∨ t = 3 ∨ t = 4 := by omega
  rcases this with e | e | e | e <;> rw [e] <;> rfl
theorem spec_l9PartsText_ev (a : ByteArray) (cs : List (S82)) (ps : List (S85)) (xs : List (S69)) (l : List (S85)) (hc : namesS cs) (h : partsM cs.length l = true) : Ev (fun k => spec_l9PartsText.f k a cs ps xs l) (partTx cs l) := by
  have pin := partsM_in h
  unfold spec_l9PartsText.f
  have z1 : (⟨#[32, 100, 101, 115, 99]⟩ : ByteArray).size = 5 := rfl
  have z2 : (⟨#[44, 32]⟩ : ByteArray).size = 2 := rfl
  have first : ∀ (x : S85) (R : ByteArray), 0 < l.length → l.length ≤ 2 → l[0]? = some x → Ev (fun k => spec_l9PartsText.l0 k l (partOne cs x) ((0 + 1 : Nat) : Int) a cs ps xs) R → Ev (fun k => spec_l9PartsText.l0 k l (⟨#[]⟩ : ByteArray) ((0 : Nat) : Int) a cs ps xs) R := by
    intro x R hi h2 hx ih
    have p1 := pin x (List.mem_of_getElem? hx)
    have ns := rd_small hc x.f0 p1.1 p1.2
    have z0 : (⟨#[]⟩ : ByteArray).size = 0 := rfl
    refine Ev.step (fun k => by rw [spec_l9PartsText.l0]) ?_
    refine ev_pos (by omega) (ev_neg (by omega) (ev_pos (by omega) ?_))
    rw [wrap_succ (by omega), show rd_T85 l ((0 : Nat) : Int) = x from getD_at hx]
    refine ev_pos p1.1 (ev_pos p1.2 (ev_pos (by omega) ?_))
    rw [ba_nil]
    unfold partOne at ih
    refine ev_ite (fun c => ?_) (fun c => ?_)
    · rw [if_pos c] at ih
      exact ev_pos (by omega) ih
    · rw [if_neg c] at ih
      exact ih
  have next : ∀ (s : ByteArray) (x : S85) (R : ByteArray), 1 < l.length → l.length ≤ 2 → s.size ≤ 30 → l[1]? = some x → Ev (fun k => spec_l9PartsText.l0 k l ((s ++ (⟨#[44, 32]⟩ : ByteArray)) ++ partOne cs x) ((1 + 1 : Nat) : Int) a cs ps xs) R → Ev (fun k => spec_l9PartsText.l0 k l s ((1 : Nat) : Int) a cs ps xs) R := by
    intro s x R hi h2 hs hx ih
    have p1 := pin x (List.mem_of_getElem? hx)
    have ns := rd_small hc x.f0 p1.1 p1.2
    refine Ev.step (fun k => by rw [spec_l9PartsText.l0]) ?_
    refine ev_pos (by omega) (ev_pos (by omega) (ev_pos (by omega) (ev_pos (by omega) ?_)))
    rw [wrap_succ (by omega), show rd_T85 l ((1 : Nat) : Int) = x from getD_at hx]
    refine ev_pos p1.1 (ev_pos p1.2 (ev_pos (by simp only [ByteArray.size_append]; omega) ?_))
    unfold partOne at ih
    refine ev_ite (fun c => ?_) (fun c => ?_)
    · rw [if_pos c, ← ba_assoc] at ih
      exact ev_pos (by simp only [ByteArray.size_append]; omega) ih
    · rw [if_neg c] at ih
      exact ih
  have last : ∀ (s : ByteArray), s.size ≤ 30 → Ev (fun k => spec_l9PartsText.l0 k l s (l.length : Int) a cs ps xs) (s ++ (⟨#[59, 32]⟩ : ByteArray)) := by
    intro s hs
    refine Ev.step (fun k => by rw [spec_l9PartsText.l0]) ?_
    exact ev_neg (by omega) (ev_pos (by omega) (ev_some rfl))
  match l, h with
  | [p], _ =>
    have p1 := pin p (by simp)
    have := partOne_size hc p p1.1 p1.2
    exact first p _ (by simp) (by simp) rfl (last _ (by omega))
  | [p, q], _ =>
    have p1 := pin p (by simp)
    have q1 := pin q (by simp)
    have := partOne_size hc p p1.1 p1.2
    have := partOne_size hc q q1.1 q1.2
    exact first p _ (by simp) (by simp) rfl (next _ q _ (by simp) (by simp) (by omega) rfl (last _ (by simp only [ByteArray.size_append]; omega)))
theorem spec_DefText_ev (a : ByteArray) (cs : List (S82)) (ps : List (S85)) (xs : List (S69)) (h : defFits a cs ps xs) : Ev (fun k => spec_DefText.f k a cs ps xs) (defTx a cs ps xs) := by
  unfold spec_DefText.f defTx
  refine Ev.bind (spec_CheckDef_ev a cs ps xs h) (ev_ite (fun c => ?_) (fun c => by rw [if_neg c]; exact ev_some rfl))
  rw [if_pos c]
  obtain ⟨g1, g2, g3, g4, g5, g6⟩ := checkM_good c
  have hn : namesS cs := fun c hc => (g2 c hc).1
  have z1 : (⟨#[32]⟩ : ByteArray).size = 1 := rfl
  have z2 : (⟨#[32, 110, 117, 108, 108]⟩ : ByteArray).size = 5 := rfl
  have z3 : (⟨#[59, 32]⟩ : ByteArray).size = 2 := rfl
  have z4 : (⟨#[116, 97, 98, 108, 101, 32]⟩ : ByteArray).size = 6 := rfl
  have z5 : (⟨#[32, 123, 32]⟩ : ByteArray).size = 3 := rfl
  have z6 : (⟨#[112, 114, 105, 109, 97, 114, 121, 32]⟩ : ByteArray).size = 8 := rfl
  have z7 : (⟨#[117, 110, 105, 113, 117, 101, 32]⟩ : ByteArray).size = 7 := rfl
  have z8 : (⟨#[105, 110, 100, 101, 120, 32]⟩ : ByteArray).size = 6 := rfl
  refine ev_pos (by omega) (ev_pos (by rw [ByteArray.size_append]; omega) ?_)
  have l1 : ∀ s : ByteArray, s.size ≤ 1000 → Ev (fun k => spec_DefText.l1 k s 0 a cs ps xs) (xs.foldl (idxS cs) s ++ (⟨#[125]⟩ : ByteArray)) := by
    intro s hs
    refine ev_listI0 (fun k s i => spec_DefText.l1 k s i a cs ps xs) xs (fun s i => s.size ≤ 1000 + 60 * i) (fun s _ r => r.foldl (idxS cs) s ++ (⟨#[125]⟩ : ByteArray)) s (by omega) ?_ ?_
    · intro s hI
      refine Ev.step (fun k => by rw [spec_DefText.l1]) ?_
      exact ev_neg (by omega) (ev_pos (by omega) (ev_some rfl))
    · intro s i x r hI hi hx hd ih
      have g := g6 x (List.mem_of_getElem? hx)
      have pz := partTx_size hn x.f2 g.2
      have pt := spec_l9PartsText_ev a cs ps xs x.f2 hn g.2
      have ii := ih (idxS cs s x) (by have := idxS_size hn s x g; omega)
      rw [List.foldl_cons]
      refine Ev.step (fun k => by rw [spec_DefText.l1]) ?_
      refine ev_pos (by omega) (ev_pos (by omega) ?_)
      rw [wrap_succ (by omega), show rd_T69 xs (i : Int) = x from getD_at hx]
      unfold idxS at ii ⊢
      refine ev_ite (fun c => ?_) (fun c => ?_)
      · rw [if_pos c, ← ba_assoc, ← ba_assoc, ← ba_assoc] at ii
        rw [if_pos c, ← ba_assoc, ← ba_assoc, ← ba_assoc]
        exact ev_pos (by omega) (ev_pos (by simp only [ByteArray.size_append]; omega) (ev_pos (by simp only [ByteArray.size_append]; omega) (Ev.bind pt (ev_pos (by simp only [ByteArray.size_append]; omega) ii))))
      · rw [if_neg c, ← ba_assoc, ← ba_assoc, ← ba_assoc] at ii
        rw [if_neg c, ← ba_assoc, ← ba_assoc, ← ba_assoc]
        exact ev_pos (by omega) (ev_pos (by simp only [ByteArray.size_append]; omega) (ev_pos (by simp only [ByteArray.size_append]; omega) (Ev.bind pt (ev_pos (by simp only [ByteArray.size_append]; omega) ii))))
  refine ev_listI0 (fun k s i => spec_DefText.l0 k s i a cs ps xs) cs (fun s i => s.size ≤ 100 + 30 * i) (fun s _ r => restTx cs ps xs (r.foldl colS s)) _ (by simp only [ByteArray.size_append]; omega) ?_ ?_
  · intro s hI
    have pz := partTx_size hn ps g5
    have ll := l1 (s ++ ((⟨#[112, 114, 105, 109, 97, 114, 121, 32]⟩ : ByteArray) ++ partTx cs ps)) (by simp only [ByteArray.size_append]; omega)
    rw [← ba_assoc] at ll
    rw [List.foldl_nil]
    unfold restTx
    rw [← ba_assoc]
    refine Ev.step (fun k => by rw [spec_DefText.l0]) ?_
    exact ev_neg (by omega) (ev_pos (by omega) (Ev.bind (spec_l9PartsText_ev a cs ps xs ps hn g5) (ev_pos (by simp only [ByteArray.size_append]; omega) ll)))
  · intro s i x r hI hi hx hd ih
    have g := g2 x (List.mem_of_getElem? hx)
    have tz := tyL_size x.f1 g.2.1 g.2.2
    have ii := ih (colS s x) (by have := colS_size s x g; omega)
    rw [List.foldl_cons]
    refine Ev.step (fun k => by rw [spec_DefText.l0]) ?_
    refine ev_pos (by omega) (ev_pos (by omega) ?_)
    rw [wrap_succ (by omega), show rd_T82 cs (i : Int) = x from getD_at hx]
    refine ev_pos (by omega) (ev_pos (by simp only [ByteArray.size_append]; omega) (Ev.bind (ev_c (spec_l9Type_eq x.f1 g.2.1 g.2.2)) (ev_pos (by simp only [ByteArray.size_append]; omega) ?_)))
    have e : s ++ ((x.f0 ++ (⟨#[32]⟩ : ByteArray)) ++ rdOf ByteArray.empty tyL x.f1) = ((s ++ x.f0) ++ (⟨#[32]⟩ : ByteArray)) ++ rdOf ByteArray.empty tyL x.f1 := by simp only [ba_assoc]
    unfold colS at ii ⊢
    rw [e] at ii ⊢
    refine ev_ite (fun c => ?_) (fun c => ?_)
    · rw [if_pos c] at ii ⊢
      exact ev_pos (by simp only [ByteArray.size_append]; omega) (ev_pos (by simp only [ByteArray.size_append]; omega) ii)
    · rw [if_neg c] at ii ⊢
      exact ev_pos (by simp only [ByteArray.size_append]; omega) ii
theorem foldl_size {β : Type} (f : ByteArray → β → ByteArray) (B : Nat) : ∀ (l : List β) (s : ByteArray), (∀ x ∈ l, ∀ s, (f s x).size ≤ s.size + B) → (l.foldl f s).size ≤ s.size + B * l.length
  | [], s, _ => by simp
  | x :: r, s, h => by
    rw [List.foldl_cons, List.length_cons]
    have h1 := h x List.mem_cons_self s
    have h2 := foldl_size f B r (f s x) (fun y hy => h y (List.mem_cons_of_mem _ hy))
    rw [Nat.mul_add]
    omega
theorem defTx_size (a : ByteArray) (cs : List (S82)) (ps : List (S85)) (xs : List (S69)) : (defTx a cs ps xs).size ≤ 2000 := by
  unfold defTx
  split
  rotate_left
  · exact Nat.zero_le _
  rename_i c
  obtain ⟨g1, g2, g3, g4, g5, g6⟩ := checkM_good c
  have hn : namesS cs := fun c hc => (g2 c hc).1
  have z4 : (⟨#[116, 97, 98, 108, 101, 32]⟩ : ByteArray).size = 6 := rfl
  have z5 : (⟨#[32, 123, 32]⟩ : ByteArray).size = 3 := rfl
  have z6 : (⟨#[112, 114, 105, 109, 97, 114, 121, 32]⟩ : ByteArray).size = 8 := rfl
  have z9 : (⟨#[125]⟩ : ByteArray).size = 1 := rfl
  have pz := partTx_size hn ps g5
  unfold restTx
  have f1 := foldl_size colS 30 cs (((⟨#[116, 97, 98, 108, 101, 32]⟩ : ByteArray) ++ a) ++ (⟨#[32, 123, 32]⟩ : ByteArray)) (fun x hx s => colS_size s x (g2 x hx))
  have f2 := foldl_size (idxS cs) 60 xs (cs.foldl colS (((⟨#[116, 97, 98, 108, 101, 32]⟩ : ByteArray) ++ a) ++ (⟨#[32, 123, 32]⟩ : ByteArray)) ++ ((⟨#[112, 114, 105, 109, 97, 114, 121, 32]⟩ : ByteArray) ++ partTx cs ps)) (fun x hx s => idxS_size hn s x (g6 x hx))
  simp only [ByteArray.size_append] at f1 f2 ⊢
  omega
def defsS (s : ByteArray) (d : S35) : ByteArray := s ++ (defTx d.f0 d.f1 d.f2 d.f3 ++ (⟨#[10]⟩ : ByteArray))
def defsTx (l : List (S35)) : ByteArray := l.foldl defsS (⟨#[]⟩ : ByteArray)
theorem spec_DefsText_ev (l : List (S35)) (hl : l.length ≤ 1048576) (hd : ∀ d ∈ l, defFits d.f0 d.f1 d.f2 d.f3) : Ev (fun k => spec_DefsText.f k l) (defsTx l) := by
  unfold spec_DefsText.f
  have z : (⟨#[10]⟩ : ByteArray).size = 1 := rfl
  refine ev_listI0 (fun k s i => spec_DefsText.l0 k l s i) l (fun s i => s.size ≤ 2001 * i) (fun s _ r => r.foldl defsS s) (⟨#[]⟩ : ByteArray) (Nat.zero_le _) ?_ ?_
  · intro s hI
    refine Ev.step (fun k => by rw [spec_DefsText.l0]) ?_
    exact ev_neg (by omega) (ev_some rfl)
  · intro s i x r hI hi hx hd2 ih
    have tz := defTx_size x.f0 x.f1 x.f2 x.f3
    have ii := ih (defsS s x) (by unfold defsS; simp only [ByteArray.size_append]; omega)
    rw [List.foldl_cons]
    refine Ev.step (fun k => by rw [spec_DefsText.l0]) ?_
    refine ev_pos (by omega) (ev_pos (by omega) ?_)
    rw [wrap_succ (by omega), show rd_T35 l (i : Int) = x from getD_at hx]
    unfold defsS at ii ⊢
    rw [← ba_assoc] at ii ⊢
    exact Ev.bind (spec_DefText_ev _ _ _ _ (hd x (List.mem_of_getElem? hx))) (ev_pos (by omega) (ev_pos (by simp only [ByteArray.size_append]; omega) ii))
theorem impl_in_eq (a b c : Int) : impl_in.f a b c = some (inB a b c) := by unfold impl_in.f inB; split <;> rfl
theorem impl_isLetter_eq (a : Int) : impl_isLetter.f a = some (inB a 97 122) := by unfold impl_isLetter.f inB; split <;> rfl
theorem impl_isDigit_eq (a : Int) : impl_isDigit.f a = some (inB a 48 57) := by unfold impl_isDigit.f inB; split <;> rfl
theorem impl_nameOk_ev (s : ByteArray) (hs : s.size ≤ 140737488351232) : Ev (fun k => impl_nameOk.f k s) (nameM s.size 0 (bytesOf s)) := by
  refine ev_list0 (fun k i => impl_nameOk.l0 k s i) (bytesOf s) (nameM s.size) ?_ ?_
  · refine Ev.step (fun k => by rw [impl_nameOk.l0]) ?_
    refine ev_neg (by rw [size_len]; omega) ?_
    exact Ev.bind (ev_c (impl_in_eq _ _ _)) (ev_some rfl)
  · intro i x r hi hx hd ih
    have hb := bt_at' hx
    refine Ev.step (fun k => by rw [impl_nameOk.l0]) ?_
    refine ev_pos (by rw [size_len]; omega) (ev_pos (by omega) ?_)
    rw [wrap_succ (by rw [bytesOf_length] at hi; omega)]
    refine Ev.bind (ev_c (impl_isLetter_eq _)) ?_
    rw [hb]
    unfold nameM
    by_cases c1 : inB x 97 122 = true
    · rw [if_pos c1]; exact ev_pos c1 ih
    · rw [if_neg c1]
      refine ev_neg c1 ?_
      by_cases c2 : i = 0
      · rw [if_pos c2]; exact ev_pos (by omega) (ev_some rfl)
      · rw [if_neg c2]
        refine ev_neg (by omega) (Ev.bind (ev_c (impl_isDigit_eq _)) ?_)
        by_cases c3 : inB x 48 57 = true
        · rw [if_pos c3]; exact ev_pos c3 ih
        · rw [if_neg c3]; exact ev_neg c3 (ev_some rfl)
theorem impl_isFree_ev (s : ByteArray) (hs : s.size ≤ 140737488351232) : Ev (fun k => impl_isFree.f k s) (freeM s) := by
  unfold impl_isFree.f
  have sp : strings_Split.f (⟨#[116, 97, 98, 108, 101, 32, 112, 114, 105, 109, 97, 114, 121, 32, 117, 110, 105, 113, 117, 101, 32, 105, 110, 100, 101, 120, 32, 110, 117, 108, 108, 32, 100, 101, 115, 99, 32, 105, 110, 116, 32, 110, 117, 109, 32, 116, 101, 120, 116, 32, 98, 111, 111, 108]⟩ : ByteArray) (⟨#[32]⟩ : ByteArray) = some wordsL := by
    unfold strings_Split.f
    rw [if_pos ⟨rfl, by decide⟩]
    exact congrArg some (by kernel_rfl)
  refine Ev.bind (ev_c sp) ?_
  have g := ev_stop (fun k i => impl_isFree.l0 k s wordsL (wordsL.length : Int) i) wordsL (fun w => isT w s) false (nameM s.size 0 (bytesOf s)) ?_ ?_
  · refine ev_eq g ?_
    unfold freeM
    cases nameM s.size 0 (bytesOf s) <;> cases (wordsL.any fun w => isT w s) <;> rfl
  · refine Ev.step (fun k => by rw [impl_isFree.l0]) ?_
    exact ev_neg (by omega) (Ev.bind (impl_nameOk_ev s hs) (ev_some rfl))
  · intro i x r hi hx ih
    have h10 : wordsL.length = 10 := rfl
    refine Ev.step (fun k => by rw [impl_isFree.l0]) ?_
    refine ev_pos (by omega) (ev_pos (by omega) (ev_pos (by omega) ?_))
    rw [wrap_succ (by omega), show rdOf ByteArray.empty wordsL (i : Int) = x from getD_at hx]
    unfold isT
    exact ev_ite (fun h => by rw [decide_eq_true h]; exact ev_some rfl) (fun h => by rw [decide_eq_false h]; exact ih)
theorem impl_namesOk_ev (a : ByteArray) (cs : List (S82)) (ps : List (S85)) (xs : List (S69)) (h : defFits a cs ps xs) : Ev (fun k => impl_namesOk.f k a cs ps xs) (namesM a cs xs) := by
  obtain ⟨ha, hc, hcs, hp, hx, hxs⟩ := h
  unfold impl_namesOk.f namesM
  have l1 : Ev (fun k => impl_namesOk.l1 k xs (xs.length : Int) 0 a cs ps xs) (if xs.all (fun x => freeM x.f0) = true then freeM a else false) := by
    refine ev_all (fun k i => impl_namesOk.l1 k xs (xs.length : Int) i a cs ps xs) xs (fun x => freeM x.f0) _ ?_ ?_
    · refine Ev.step (fun k => by rw [impl_namesOk.l1]) ?_
      exact ev_neg (by omega) (Ev.bind (impl_isFree_ev a ha) (ev_some rfl))
    · intro i x r hi hx2 ih
      refine Ev.step (fun k => by rw [impl_namesOk.l1]) ?_
      refine ev_pos (by omega) (ev_pos (by omega) (ev_pos (by omega) ?_))
      rw [wrap_succ (by omega), show rd_T69 xs (i : Int) = x from getD_at hx2]
      refine Ev.bind (impl_isFree_ev x.f0 (hxs x (List.mem_of_getElem? hx2)).1) ?_
      exact ev_ite (fun c => by rw [if_pos c]; exact ih) (fun c => by rw [if_neg c]; exact ev_some rfl)
  refine ev_all (fun k i => impl_namesOk.l0 k cs (cs.length : Int) i a cs ps xs) cs (fun x => freeM x.f0) _ ?_ ?_
  · refine Ev.step (fun k => by rw [impl_namesOk.l0]) ?_
    exact ev_neg (by omega) l1
  · intro i x r hi hx2 ih
    refine Ev.step (fun k => by rw [impl_namesOk.l0]) ?_
    refine ev_pos (by omega) (ev_pos (by omega) (ev_pos (by omega) ?_))
    rw [wrap_succ (by omega), show rd_T82 cs (i : Int) = x from getD_at hx2]
    refine Ev.bind (impl_isFree_ev x.f0 (hcs x (List.mem_of_getElem? hx2))) ?_
    exact ev_ite (fun c => by rw [if_pos c]; exact ih) (fun c => by rw [if_neg c]; exact ev_some rfl)
theorem impl_twice_ev (a : ByteArray) (cs : List (S82)) (ps : List (S85)) (xs : List (S69)) (hc : cs.length ≤ 1048576) (hx : xs.length ≤ 1048576) : Ev (fun k => impl_twice.f k a cs ps xs) (!(onceM cs xs)) := by
  unfold impl_twice.f onceM
  have l2 : Ev (fun k => impl_twice.l2 k xs (xs.length : Int) 0 a cs ps xs) (!(onceR [] (xs.map (·.f0)))) := by
    have g := ev_list0 (fun k i => impl_twice.l2 k xs (xs.length : Int) i a cs ps xs) xs (fun i r => !(onceR ((xs.take i).map (·.f0)) (r.map (·.f0)))) ?_ ?_
    · exact g
    · refine Ev.step (fun k => by rw [impl_twice.l2]) ?_
      exact ev_neg (by omega) (ev_some rfl)
    · intro i x r hi hx2 hd ih
      refine Ev.step (fun k => by rw [impl_twice.l2]) ?_
      refine ev_pos (by omega) (ev_pos (by omega) (ev_pos (by omega) (ev_pos (by omega) ?_)))
      rw [List.map_cons, onceR, List.any_map]
      have tl : (xs.take i).length = i := by rw [List.length_take]; omega
      have e : (xs.take i).map (·.f0) ++ [x.f0] = (xs.take (i + 1)).map (·.f0) := by rw [List.take_add_one, hx2]; simp
      rw [e]
      refine Ev.bind (ev_c rfl) ?_
      rw [show rd_T69 xs (i : Int) = x from getD_at hx2, Int.toNat_natCast]
      have g := ev_stop (fun k j => impl_twice.l3 k xs (xs.length : Int) (i : Int) (xs.take i) ((xs.take i).length : Int) j a cs ps xs x.f0 x.f1 x.f2) (xs.take i) (fun y => isT y.f0 x.f0) true (!(onceR ((xs.take (i + 1)).map (·.f0)) (r.map (·.f0)))) ?_ ?_
      · refine ev_eq g ?_
        by_cases c : (xs.take i).any (fun y => isT y.f0 x.f0) = true
        · rw [if_pos c, if_pos (show (xs.take i).any ((fun y => isT y x.f0) ∘ (·.f0)) = true from c)]; rfl
        · rw [if_neg c, if_neg (show ¬ (xs.take i).any ((fun y => isT y x.f0) ∘ (·.f0)) = true from c)]
      · refine Ev.step (fun k => by rw [impl_twice.l3]) ?_
        refine ev_neg (by omega) ?_
        rw [wrap_succ (by omega)]
        exact ih
      · intro j y r2 hj hy ih2
        refine Ev.step (fun k => by rw [impl_twice.l3]) ?_
        refine ev_pos (by omega) (ev_pos (by omega) (ev_pos (by omega) ?_))
        rw [wrap_succ (by omega), show rd_T69 (xs.take i) (j : Int) = y from getD_at hy]
        show Ev _ (if decide (y.f0.toList = x.f0.toList) = true then true else r2)
        exact ev_ite (fun h => by rw [decide_eq_true h]; exact ev_some rfl) (fun h => by rw [decide_eq_false h]; exact ih2)
  have g := ev_list0 (fun k i => impl_twice.l0 k cs (cs.length : Int) i a cs ps xs) cs (fun i r => !(if onceR ((cs.take i).map (·.f0)) (r.map (·.f0)) = true then onceR [] (xs.map (·.f0)) else false)) ?_ ?_
  · exact g
  · refine Ev.step (fun k => by rw [impl_twice.l0]) ?_
    refine ev_neg (by omega) ?_
    rw [List.map_nil, onceR, if_pos rfl]
    exact l2
  · intro i x r hi hx2 hd ih
    refine Ev.step (fun k => by rw [impl_twice.l0]) ?_
    refine ev_pos (by omega) (ev_pos (by omega) (ev_pos (by omega) (ev_pos (by omega) ?_)))
    rw [List.map_cons, onceR, List.any_map]
    have tl : (cs.take i).length = i := by rw [List.length_take]; omega
    have e : (cs.take i).map (·.f0) ++ [x.f0] = (cs.take (i + 1)).map (·.f0) := by rw [List.take_add_one, hx2]; simp
    rw [e]
    refine Ev.bind (ev_c rfl) ?_
    rw [show rd_T82 cs (i : Int) = x from getD_at hx2, Int.toNat_natCast]
    have g := ev_stop (fun k j => impl_twice.l1 k cs (cs.length : Int) (i : Int) (cs.take i) ((cs.take i).length : Int) j a cs ps xs x.f0 x.f1 x.f2) (cs.take i) (fun y => isT y.f0 x.f0) true (!(if onceR ((cs.take (i + 1)).map (·.f0)) (r.map (·.f0)) = true then onceR [] (xs.map (·.f0)) else false)) ?_ ?_
    · refine ev_eq g ?_
      by_cases c : (cs.take i).any (fun y => isT y.f0 x.f0) = true
      · rw [if_pos c, if_pos (show (cs.take i).any ((fun y => isT y x.f0) ∘ (·.f0)) = true from c)]; rfl
      · rw [if_neg c, if_neg (show ¬ (cs.take i).any ((fun y => isT y x.f0) ∘ (·.f0)) = true from c)]
    · refine Ev.step (fun k => by rw [impl_twice.l1]) ?_
      refine ev_neg (by omega) ?_
      rw [wrap_succ (by omega)]
      exact ih
    · intro j y r2 hj hy ih2
      refine Ev.step (fun k => by rw [impl_twice.l1]) ?_
      refine ev_pos (by omega) (ev_pos (by omega) (ev_pos (by omega) ?_))
      rw [wrap_succ (by omega), show rd_T82 (cs.take i) (j : Int) = y from getD_at hy]
      show Ev _ (if decide (y.f0.toList = x.f0.toList) = true then true else r2)
      exact ev_ite (fun h => by rw [decide_eq_true h]; exact ev_some rfl) (fun h => by rw [decide_eq_false h]; exact ih2)
theorem impl_partsOk_ev (a : ByteArray) (cs : List (S82)) (ps : List (S85)) (xs : List (S69)) (l : List (S85)) (hc : cs.length ≤ 1048576) (hl : l.length ≤ 1048576) : Ev (fun k => impl_partsOk.f k a cs ps xs l) (partsM cs.length l) := by
  unfold impl_partsOk.f
  have wr : wrap64 ((cs.length : Int) - 1) = (cs.length : Int) - 1 := wrap_id (by omega) (by omega)
  -- the inner loop
  have inner : ∀ (i : Nat) (x : S85) (R : Bool), i < l.length → l[i]? = some x → Ev (fun k => impl_partsOk.l0 k l l (l.length : Int) ((i + 1 : Nat) : Int) a cs ps xs) R →
      Ev (fun k => impl_partsOk.l1 k l l (l.length : Int) (i : Int) (l.take i) ((l.take i).length : Int) 0 a cs ps xs x.f0 x.f1) (if (l.take i).any (fun y => decide (y.f0 = x.f0)) = true then false else R) := by
    intro i x R hi hx ih
    have tl : (l.take i).length = i := by rw [List.length_take]; omega
    refine ev_stop (fun k j => impl_partsOk.l1 k l l (l.length : Int) (i : Int) (l.take i) ((l.take i).length : Int) j a cs ps xs x.f0 x.f1) (l.take i) (fun y => decide (y.f0 = x.f0)) false R ?_ ?_
    · refine Ev.step (fun k => by rw [impl_partsOk.l1]) ?_
      refine ev_neg (by omega) ?_
      rw [wrap_succ (by omega)]
      exact ih
    · intro j y r2 hj hy ih2
      refine Ev.step (fun k => by rw [impl_partsOk.l1]) ?_
      refine ev_pos (by omega) (ev_pos (by omega) (ev_pos (by omega) ?_))
      rw [wrap_succ (by omega), show rd_T85 (l.take i) (j : Int) = y from getD_at hy]
      exact ev_ite (fun h => by rw [decide_eq_true h]; exact ev_some rfl) (fun h => by rw [decide_eq_false h]; exact ih2)
  -- one element
  have one : ∀ (i : Nat) (x : S85) (R : Bool), i < l.length → l[i]? = some x → Ev (fun k => impl_partsOk.l0 k l l (l.length : Int) ((i + 1 : Nat) : Int) a cs ps xs) R →
      Ev (fun k => impl_partsOk.l0 k l l (l.length : Int) (i : Int) a cs ps xs) (if inB x.f0 0 ((cs.length : Int) - 1) = true then (if (l.take i).any (fun y => decide (y.f0 = x.f0)) = true then false else R) else false) := by
    intro i x R hi hx ih
    refine Ev.step (fun k => by rw [impl_partsOk.l0]) ?_
    refine ev_pos (by omega) (ev_pos (by omega) (ev_pos (by omega) ?_))
    rw [wr, show rd_T85 l (i : Int) = x from getD_at hx]
    refine Ev.bind (ev_c (impl_in_eq _ _ _)) ?_
    refine ev_ite (fun c => ?_) (fun c => by rw [if_neg c]; exact ev_some rfl)
    rw [if_pos c]
    refine ev_pos (by omega) (Ev.bind (ev_c rfl) ?_)
    rw [Int.toNat_natCast]
    exact inner i x R hi hx ih
  have last : Ev (fun k => impl_partsOk.l0 k l l (l.length : Int) (l.length : Int) a cs ps xs) (inB l.length 1 2) := by
    refine Ev.step (fun k => by rw [impl_partsOk.l0]) ?_
    exact ev_neg (by omega) (Ev.bind (ev_c (impl_in_eq _ _ _)) (ev_some rfl))
  by_cases h : inB l.length 1 2 = true
  · match l, h with
    | [x], _ =>
      refine ev_eq (one 0 x _ (by simp) rfl last) ?_
      show (if inB x.f0 0 ((cs.length : Int) - 1) = true then true else false) = inB x.f0 0 ((cs.length : Int) - 1)
      cases inB x.f0 0 ((cs.length : Int) - 1) <;> rfl
    | [x, y], _ =>
      refine ev_eq (one 0 x _ (by simp) rfl (one 1 y _ (by simp) rfl last)) ?_
      show (if inB x.f0 0 ((cs.length : Int) - 1) = true then (if inB y.f0 0 ((cs.length : Int) - 1) = true then (if (decide (x.f0 = y.f0) || false) = true then false else true) else false) else false) = (if inB x.f0 0 ((cs.length : Int) - 1) = true then (if inB y.f0 0 ((cs.length : Int) - 1) = true then !decide (x.f0 = y.f0) else false) else false)
      cases decide (x.f0 = y.f0) <;> rfl
    | [], h => exact absurd h (by decide)
    | _ :: _ :: _ :: r, h => exact absurd (inB_iff.1 h).2 (by simp only [List.length_cons]; omega)
  · rw [partsM_not h]
    rw [Bool.eq_false_iff.2 h] at last
    refine ev_pass (fun k i => impl_partsOk.l0 k l l (l.length : Int) i a cs ps xs) l false last ?_
    intro i x hi hx ih
    refine ev_eq (one i x false hi hx ih) ?_
    split
    · split <;> rfl
    · rfl
theorem impl_CheckDef_ev (a : ByteArray) (cs : List (S82)) (ps : List (S85)) (xs : List (S69)) (h : defFits a cs ps xs) : Ev (fun k => impl_CheckDef.f k a cs ps xs) (checkM a cs ps xs) := by
  have ⟨ha, hc, hcs, hp, hx, hxs⟩ := h
  unfold impl_CheckDef.f checkM
  refine Ev.bind (impl_namesOk_ev a cs ps xs h) (ev_ite (fun c => ?_) (fun c => by rw [if_neg c]; exact ev_some rfl))
  rw [if_pos c]
  have l2 : (∀ p ∈ ps, 0 ≤ p.f0 ∧ p.f0 < cs.length) → Ev (fun k => impl_CheckDef.l2 k ps (ps.length : Int) 0 a cs ps xs) (if ps.any (nullAt cs) = true then 4 else 0) := by
    intro pin
    refine ev_stop (fun k i => impl_CheckDef.l2 k ps (ps.length : Int) i a cs ps xs) ps (nullAt cs) 4 0 ?_ ?_
    · refine Ev.step (fun k => by rw [impl_CheckDef.l2]) ?_
      exact ev_neg (by omega) (ev_some rfl)
    · intro i x r hi hx2 ih
      have q := pin x (List.mem_of_getElem? hx2)
      refine Ev.step (fun k => by rw [impl_CheckDef.l2]) ?_
      refine ev_pos (by omega) (ev_pos (by omega) (ev_pos (by omega) ?_))
      rw [wrap_succ (by omega), show rd_T85 ps (i : Int) = x from getD_at hx2]
      refine ev_pos q.1 (ev_pos q.2 ?_)
      exact ev_ite (fun c => by rw [if_pos (show nullAt cs x = true from c)]; exact ev_some rfl) (fun c => by rw [if_neg (show ¬ nullAt cs x = true from c)]; exact ih)
  have l1 : Ev (fun k => impl_CheckDef.l1 k xs (xs.length : Int) 0 a cs ps xs) (if allPartsM cs ps xs = true then (if ps.any (nullAt cs) = true then 4 else 0) else 5) := by
    have g := ev_stop (fun k i => impl_CheckDef.l1 k xs (xs.length : Int) i a cs ps xs) xs (fun x => !(partsM cs.length x.f2)) 5 (if partsM cs.length ps = true then (if ps.any (nullAt cs) = true then 4 else 0) else 5) ?_ ?_
    · refine ev_eq g ?_
      unfold allPartsM
      rw [show xs.any (fun x => !(partsM cs.length x.f2)) = !(xs.all (fun x => partsM cs.length x.f2)) by rw [List.not_all_eq_any_not]]
      cases xs.all (fun x => partsM cs.length x.f2) <;> rfl
    · refine Ev.step (fun k => by rw [impl_CheckDef.l1]) ?_
      refine ev_neg (by omega) (Ev.bind (impl_partsOk_ev a cs ps xs ps hc hp) ?_)
      refine ev_ite (fun c => ?_) (fun c => by rw [if_neg c]; exact ev_some rfl)
      rw [if_pos c]
      exact l2 (partsM_in c)
    · intro i x r hi hx2 ih
      refine Ev.step (fun k => by rw [impl_CheckDef.l1]) ?_
      refine ev_pos (by omega) (ev_pos (by omega) (ev_pos (by omega) ?_))
      rw [wrap_succ (by omega), show rd_T69 xs (i : Int) = x from getD_at hx2]
      refine Ev.bind (impl_partsOk_ev a cs ps xs x.f2 hc (hxs x (List.mem_of_getElem? hx2)).2) ?_
      exact ev_ite (fun c => by rw [c, if_neg (by simp)]; exact ih) (fun c => by rw [Bool.eq_false_iff.2 c, if_pos (by simp)]; exact ev_some rfl)
  refine Ev.bind (ev_c (impl_in_eq _ _ _)) ?_
  have rest : Ev (fun k => impl_CheckDef.l0 k cs (cs.length : Int) 0 a cs ps xs) (if cs.all (fun c => inB c.f1 1 4) = true then (if onceM cs xs = true then (if (xs.length : Int) > 2 then 6 else if allPartsM cs ps xs = true then (if ps.any (nullAt cs) = true then 4 else 0) else 5) else 3) else 2) := by
    have g := ev_stop (fun k i => impl_CheckDef.l0 k cs (cs.length : Int) i a cs ps xs) cs (fun c => !(inB c.f1 1 4)) 2 (if onceM cs xs = true then (if (xs.length : Int) > 2 then 6 else if allPartsM cs ps xs = true then (if ps.any (nullAt cs) = true then 4 else 0) else 5) else 3) ?_ ?_
    · refine ev_eq g ?_
      rw [show cs.any (fun c => !(inB c.f1 1 4)) = !(cs.all (fun c => inB c.f1 1 4)) by rw [List.not_all_eq_any_not]]
      cases cs.all (fun c => inB c.f1 1 4) <;> rfl
    · refine Ev.step (fun k => by rw [impl_CheckDef.l0]) ?_
      refine ev_neg (by omega) (Ev.bind (impl_twice_ev a cs ps xs hc hx) ?_)
      refine ev_ite (fun c => ?_) (fun c => ?_)
      · rw [if_neg (by simpa using c)]; exact ev_some rfl
      · rw [if_pos (by simpa using c)]
        exact ev_ite (fun c => by rw [if_pos c]; exact ev_some rfl) (fun c => by rw [if_neg c]; exact l1)
    · intro i x r hi hx2 ih
      refine Ev.step (fun k => by rw [impl_CheckDef.l0]) ?_
      refine ev_pos (by omega) (ev_pos (by omega) (ev_pos (by omega) ?_))
      rw [wrap_succ (by omega), show rd_T82 cs (i : Int) = x from getD_at hx2]
      refine Ev.bind (ev_c (impl_in_eq _ _ _)) ?_
      exact ev_ite (fun c => by rw [c, if_neg (by simp)]; exact ih) (fun c => by rw [Bool.eq_false_iff.2 c, if_pos (by simp)]; exact ev_some rfl)
  refine ev_ite (fun c => ?_) (fun c => ?_)
  · refine ev_eq rest ?_
    unfold typesM
    rw [c]
    cases cs.all (fun c => inB c.f1 1 4) <;> rfl
  · have e : typesM cs = false := by
      unfold typesM
      rw [Bool.eq_false_iff.2 c]
      split <;> rfl
    rw [e]
    exact ev_some rfl
theorem join_one (x : ByteArray) : joinS [x] (⟨#[44, 32]⟩ : ByteArray) = x := by
  apply ByteArray.ext
  simp [joinS, Lib.join, List.intercalate]
theorem join_two (x y : ByteArray) : joinS [x, y] (⟨#[44, 32]⟩ : ByteArray) = (x ++ (⟨#[44, 32]⟩ : ByteArray)) ++ y := by
  apply ByteArray.ext
  apply Array.toList_inj.1
  simp [joinS, Lib.join, List.intercalate, ByteArray.data_append]
theorem impl_partsText_ev (a : ByteArray) (cs : List (S82)) (ps : List (S85)) (xs : List (S69)) (l : List (S85)) (hc : namesS cs) (h : partsM cs.length l = true) : Ev (fun k => impl_partsText.f k a cs ps xs l) (partTx cs l) := by
  have pin := partsM_in h
  unfold impl_partsText.f
  have one : ∀ (i : Nat) (x : S85) (s : List ByteArray) (R : ByteArray), i < l.length → l.length ≤ 2 → s.length ≤ 2 → l[i]? = some x → Ev (fun k => impl_partsText.l0 k (s ++ [partOne cs x]) l (l.length : Int) ((i + 1 : Nat) : Int) a cs ps xs) R → Ev (fun k => impl_partsText.l0 k s l (l.length : Int) (i : Int) a cs ps xs) R := by
    intro i x s R hi h2 hs hx ih
    have p1 := pin x (List.mem_of_getElem? hx)
    have ns := rd_small hc x.f0 p1.1 p1.2
    refine Ev.step (fun k => by rw [impl_partsText.l0]) ?_
    refine ev_pos (by omega) (ev_pos (by omega) (ev_pos (by omega) ?_))
    rw [wrap_succ (by omega), show rd_T85 l (i : Int) = x from getD_at hx]
    refine ev_pos p1.1 (ev_pos p1.2 ?_)
    unfold partOne at ih
    refine ev_ite (fun c => ?_) (fun c => ?_)
    · rw [if_pos c] at ih
      exact ev_pos (by omega) (ev_pos (by omega) ih)
    · rw [if_neg c] at ih
      exact ev_pos (by omega) ih
  have last : ∀ (s : List ByteArray) (t : ByteArray), joinS s (⟨#[44, 32]⟩ : ByteArray) = t → s.length ≤ 2 → t.size ≤ 30 → Ev (fun k => impl_partsText.l0 k s l (l.length : Int) (l.length : Int) a cs ps xs) (t ++ (⟨#[59, 32]⟩ : ByteArray)) := by
    intro s t ht hs hz
    refine Ev.step (fun k => by rw [impl_partsText.l0]) ?_
    refine ev_neg (by omega) ?_
    have e : strings_Join.f s (⟨#[44, 32]⟩ : ByteArray) = some t := by
      unfold strings_Join.f
      rw [ht, if_pos ⟨by omega, by omega⟩]
    exact Ev.bind (ev_c e) (ev_pos (by omega) (ev_some rfl))
  match l, h with
  | [p], _ =>
    have p1 := pin p (by simp)
    have := partOne_size hc p p1.1 p1.2
    refine one 0 p [] _ (by simp) (by simp) (by simp) rfl ?_
    exact last [partOne cs p] (partOne cs p) (join_one _) (by simp) (by omega)
  | [p, q], _ =>
    have p1 := pin p (by simp)
    have q1 := pin q (by simp)
    have := partOne_size hc p p1.1 p1.2
    have := partOne_size hc q q1.1 q1.2
    have z2 : (⟨#[44, 32]⟩ : ByteArray).size = 2 := rfl
    refine one 0 p [] _ (by simp) (by simp) (by simp) rfl ?_
    refine one 1 q [partOne cs p] _ (by simp) (by simp) (by simp) rfl ?_
    exact last [partOne cs p, partOne cs q] _ (join_two _ _) (by simp) (by simp only [ByteArray.size_append]; omega)
theorem impl_DefText_ev (a : ByteArray) (cs : List (S82)) (ps : List (S85)) (xs : List (S69)) (h : defFits a cs ps xs) : Ev (fun k => impl_DefText.f k a cs ps xs) (defTx a cs ps xs) := by
  unfold impl_DefText.f defTx
  refine Ev.bind (impl_CheckDef_ev a cs ps xs h) (ev_ite (fun c => ?_) (fun c => by rw [if_neg c]; exact ev_some rfl))
  rw [if_pos c]
  obtain ⟨g1, g2, g3, g4, g5, g6⟩ := checkM_good c
  have hn : namesS cs := fun c hc => (g2 c hc).1
  have z1 : (⟨#[32]⟩ : ByteArray).size = 1 := rfl
  have z2 : (⟨#[32, 110, 117, 108, 108]⟩ : ByteArray).size = 5 := rfl
  have z3 : (⟨#[59, 32]⟩ : ByteArray).size = 2 := rfl
  have z4 : (⟨#[116, 97, 98, 108, 101, 32]⟩ : ByteArray).size = 6 := rfl
  have z5 : (⟨#[32, 123, 32]⟩ : ByteArray).size = 3 := rfl
  have z6 : (⟨#[112, 114, 105, 109, 97, 114, 121, 32]⟩ : ByteArray).size = 8 := rfl
  have z7 : (⟨#[117, 110, 105, 113, 117, 101, 32]⟩ : ByteArray).size = 7 := rfl
  have z8 : (⟨#[105, 110, 100, 101, 120, 32]⟩ : ByteArray).size = 6 := rfl
  have sp : strings_Split.f (⟨#[32, 105, 110, 116, 32, 110, 117, 109, 32, 116, 101, 120, 116, 32, 98, 111, 111, 108]⟩ : ByteArray) (⟨#[32]⟩ : ByteArray) = some tyL := by
    unfold strings_Split.f
    rw [if_pos ⟨rfl, by decide⟩]
    exact congrArg some (by kernel_rfl)
  refine ev_pos (by omega) (ev_pos (by rw [ByteArray.size_append]; omega) ?_)
  have l1 : ∀ s : ByteArray, s.size ≤ 1000 → Ev (fun k => impl_DefText.l1 k s xs (xs.length : Int) 0 a cs ps xs) (xs.foldl (idxS cs) s ++ (⟨#[125]⟩ : ByteArray)) := by
    intro s hs
    refine ev_listI0 (fun k s i => impl_DefText.l1 k s xs (xs.length : Int) i a cs ps xs) xs (fun s i => s.size ≤ 1000 + 60 * i) (fun s _ r => r.foldl (idxS cs) s ++ (⟨#[125]⟩ : ByteArray)) s (by omega) ?_ ?_
    · intro s hI
      refine Ev.step (fun k => by rw [impl_DefText.l1]) ?_
      exact ev_neg (by omega) (ev_pos (by omega) (ev_some rfl))
    · intro s i x r hI hi hx hd ih
      have g := g6 x (List.mem_of_getElem? hx)
      have pz := partTx_size hn x.f2 g.2
      have pt := impl_partsText_ev a cs ps xs x.f2 hn g.2
      have ii := ih (idxS cs s x) (by have := idxS_size hn s x g; omega)
      rw [List.foldl_cons]
      refine Ev.step (fun k => by rw [impl_DefText.l1]) ?_
      refine ev_pos (by omega) (ev_pos (by omega) (ev_pos (by omega) ?_))
      rw [wrap_succ (by omega), show rd_T69 xs (i : Int) = x from getD_at hx]
      unfold idxS at ii ⊢
      refine ev_ite (fun c => ?_) (fun c => ?_)
      · rw [if_pos c] at ii ⊢
        exact ev_pos (by omega) (ev_pos (by simp only [ByteArray.size_append]; omega) (Ev.bind pt (ev_pos (by simp only [ByteArray.size_append]; omega) (ev_pos (by simp only [ByteArray.size_append]; omega) ii))))
      · rw [if_neg c] at ii ⊢
        exact ev_pos (by omega) (ev_pos (by simp only [ByteArray.size_append]; omega) (Ev.bind pt (ev_pos (by simp only [ByteArray.size_append]; omega) (ev_pos (by simp only [ByteArray.size_append]; omega) ii))))
  refine ev_listI0 (fun k s i => impl_DefText.l0 k s cs (cs.length : Int) i a cs ps xs) cs (fun s i => s.size ≤ 100 + 30 * i) (fun s _ r => restTx cs ps xs (r.foldl colS s)) _ (by simp only [ByteArray.size_append]; omega) ?_ ?_
  · intro s hI
    have pz := partTx_size hn ps g5
    refine Ev.step (fun k => by rw [impl_DefText.l0]) ?_
    refine ev_neg (by omega) (Ev.bind (impl_partsText_ev a cs ps xs ps hn g5) (ev_pos (by omega) (ev_pos (by simp only [ByteArray.size_append]; omega) ?_)))
    exact l1 _ (by simp only [ByteArray.size_append]; omega)
  · intro s i x r hI hi hx hd ih
    have g := g2 x (List.mem_of_getElem? hx)
    have tz := tyL_size x.f1 g.2.1 g.2.2
    have t5 : tyL.length = 5 := rfl
    have ii := ih (colS s x) (by have := colS_size s x g; omega)
    rw [List.foldl_cons]
    refine Ev.step (fun k => by rw [impl_DefText.l0]) ?_
    refine ev_pos (by omega) (ev_pos (by omega) (ev_pos (by omega) ?_))
    rw [wrap_succ (by omega), show rd_T82 cs (i : Int) = x from getD_at hx]
    refine ev_pos (by omega) (Ev.bind (ev_c sp) (ev_pos (by omega) (ev_pos (by omega) (ev_pos (by simp only [ByteArray.size_append]; omega) (ev_pos (by simp only [ByteArray.size_append]; omega) ?_)))))
    unfold colS at ii ⊢
    refine ev_ite (fun c => ?_) (fun c => ?_)
    · rw [if_pos c] at ii ⊢
      exact ev_pos (by simp only [ByteArray.size_append]; omega) (ev_pos (by simp only [ByteArray.size_append]; omega) ii)
    · rw [if_neg c] at ii ⊢
      exact ev_pos (by simp only [ByteArray.size_append]; omega) ii
theorem impl_DefsText_ev (l : List (S35)) (hl : l.length ≤ 1048576) (hd : ∀ d ∈ l, defFits d.f0 d.f1 d.f2 d.f3) : Ev (fun k => impl_DefsText.f k l) (defsTx l) := by
  unfold impl_DefsText.f
  have z : (⟨#[10]⟩ : ByteArray).size = 1 := rfl
  refine ev_listI0 (fun k s i => impl_DefsText.l0 k s l (l.length : Int) i) l (fun s i => s.size ≤ 2001 * i) (fun s _ r => r.foldl defsS s) (⟨#[]⟩ : ByteArray) (Nat.zero_le _) ?_ ?_
  · intro s hI
    refine Ev.step (fun k => by rw [impl_DefsText.l0]) ?_
    exact ev_neg (by omega) (ev_some rfl)
  · intro s i x r hI hi hx hd2 ih
    have tz := defTx_size x.f0 x.f1 x.f2 x.f3
    have ii := ih (defsS s x) (by unfold defsS; simp only [ByteArray.size_append]; omega)
    rw [List.foldl_cons]
    refine Ev.step (fun k => by rw [impl_DefsText.l0]) ?_
    refine ev_pos (by omega) (ev_pos (by omega) (ev_pos (by omega) ?_))
    rw [wrap_succ (by omega), show rd_T35 l (i : Int) = x from getD_at hx]
    exact Ev.bind (impl_DefText_ev _ _ _ _ (hd x (List.mem_of_getElem? hx))) (ev_pos (by omega) (ev_pos (by simp only [ByteArray.size_append]; omega) ii))
theorem fits_cDef {x : S46} (h : defIn x.f0 x.f1 x.f2 x.f3) (s : defSmall x.f1 x.f2 x.f3) : defFits (cDef x).f0 (cDef x).f1 (cDef x).f2 (cDef x).f3 := by
  obtain ⟨h1, h2, h3, h4, h5, h6⟩ := h
  obtain ⟨s1, s2, s3, s4⟩ := s
  refine ⟨h1, ?_, ?_, ?_, ?_, ?_⟩
  · show (x.f1.map cCol).length ≤ _
    rw [List.length_map]; exact s1
  · intro c hc
    obtain ⟨y, hy, rfl⟩ := List.mem_map.1 hc
    exact h3 y hy
  · show (x.f2.map cBy).length ≤ _
    rw [List.length_map]; exact s2
  · show (x.f3.map cIndex).length ≤ _
    rw [List.length_map]; exact s3
  · intro c hc
    obtain ⟨y, hy, rfl⟩ := List.mem_map.1 hc
    refine ⟨(h6 y hy).1, ?_⟩
    show (y.f2.map cBy).length ≤ _
    rw [List.length_map]; exact s4 y hy
theorem FnExactDefsText : ∀ (l0 : List (S46)), (l0.length * 88 ≤ 140737488351232 ∧ ∀ e0 ∈ l0, (e0.f0.size ≤ 140737488351232 ∧ (e0.f1.length * 32 ≤ 140737488351232 ∧ ∀ e1 ∈ e0.f1, (e1.f0.size ≤ 140737488351232 ∧ (-9223372036854775808 ≤ e1.f1 ∧ e1.f1 ≤ 9223372036854775807) ∧ True)) ∧ (e0.f2.length * 16 ≤ 140737488351232 ∧ ∀ e1 ∈ e0.f2, ((-9223372036854775808 ≤ e1.f0 ∧ e1.f0 ≤ 9223372036854775807) ∧ True)) ∧ (e0.f3.length * 48 ≤ 140737488351232 ∧ ∀ e1 ∈ e0.f3, (e1.f0.size ≤ 140737488351232 ∧ True ∧ (e1.f2.length * 16 ≤ 140737488351232 ∧ ∀ e2 ∈ e1.f2, ((-9223372036854775808 ≤ e2.f0 ∧ e2.f0 ≤ 9223372036854775807) ∧ True)))))) → ∃ k, laws_FnExactDefsText.f k l0 = some true := by
  intro l hl
  refine Ev.rounds ?_
  have hin : ∀ x ∈ l, defIn x.f0 x.f1 x.f2 x.f3 := by
    intro x hx
    obtain ⟨h1, h2, h3, h4⟩ := hl.2 x hx
    exact ⟨h1, by omega, fun c hc => (h2.2 c hc).1, by omega, by omega, fun i hi => ⟨(h4.2 i hi).1, by have := (h4.2 i hi).2.2.1; omega⟩⟩
  have e : EvP (fun k => laws_FnExactDefsText.f k l) (fun r => r = true) := by
    unfold laws_FnExactDefsText.f
    refine EvP.bind (laws_szDefS_evp l 1048576 (by omega) (by omega) (by omega) hin) (fun r hr => ?_)
    refine EvP.ite (fun _ => EvP.some_ rfl) (fun g => ?_)
    obtain ⟨c1, c2⟩ := hr.2.2 (by omega)
    have t := laws_toDefS_ev l c1 c2
    have fits : ∀ d ∈ l.map cDef, defFits d.f0 d.f1 d.f2 d.f3 := by
      intro d hd
      obtain ⟨x, hx, rfl⟩ := List.mem_map.1 hd
      exact fits_cDef (hin x hx) (c2 x hx)
    have ll : (l.map cDef).length ≤ 1048576 := by rw [List.length_map]; exact c1
    refine EvP.ev (a := true) ?_ rfl
    refine Ev.bind t (Ev.bind (spec_DefsText_ev _ ll fits) (Ev.bind t (Ev.bind (impl_DefsText_ev _ ll fits) (ev_pos rfl ?_))))
    exact Ev.bind t (Ev.bind (laws_eqDefS_self l c1 c2) (ev_pos rfl (ev_some rfl)))
  obtain ⟨r, hr, rfl⟩ := e
  exact hr
end Go.Proofs.YtipehkeabnfngaaDoor.Pure
