/- An interpreter over lists and numbers, and that the program does what it does (part D). No condition beyond those in each statement. -/
import Derived.Test.YtipehkeabnfngaaDoorPvLibC
import Derived.Lib.SplitLaws
import Derived.Lib.Join
import Derived.Below
import Derived.SizedLaws
import Derived.Deep.Slices
import Derived.DataReads
import Derived.Test.YtipehkeabnfngaaDoorPvLibB
import Derived.Laws.BitsLemmas
set_option linter.unusedVariables false
set_option linter.unusedSimpArgs false
/- A function's end: its promise is kept. -/
namespace Go.PV
variable {Pg : Program} {cx : Cx}
def target (es : List Ent) (i : Nat) : Option (Nat × List Nat) := match es[i]? with
  | some (.val pc) => bif Ent.back (.val pc) then some (parId i, [pc.d2]) else none
  | some (.box n) => some (parId i, (List.range n).map fun j => match es[i + 1 + j]? with | some (.cell pc) => pc.d2 | _ => 0)
  | _ => none
theorem target_id {es : List Ent} {i : Nat} {q : Nat × List Nat} (h : target es i = some q) : q.1 = parId i := by
  unfold target at h
  split at h
  · obtain ⟨_, h⟩ := cond_s h
    rw [← Option.some.inj h]
  · rw [← Option.some.inj h]
  · cases h
theorem target_nodup {es : List Ent} : ∀ {l : List Nat}, l.Nodup → ((l.filterMap (target es)).map (·.1)).Nodup
  | [], _ => List.nodup_nil
  | i :: l, h => by
    obtain ⟨h1, h2⟩ := List.nodup_cons.1 h
    rw [List.filterMap_cons]
    split
    · exact target_nodup h2
    · rename_i q hq
      rw [List.map_cons]
      refine List.nodup_cons.2 ⟨fun hm => ?_, target_nodup h2⟩
      obtain ⟨q', m1, m2⟩ := List.mem_map.1 hm
      obtain ⟨i', m3, m4⟩ := List.mem_filterMap.1 m1
      rw [target_id hq, target_id m4] at m2
      exact h1 (parId_inj m2 ▸ m3)
theorem target_mem {es : List Ent} {i : Nat} {q : Nat × List Nat} (h : target es i = some q) : q ∈ (List.range es.length).filterMap (target es) := by
  refine List.mem_filterMap.2 ⟨i, List.mem_range.2 ?_, h⟩
  rcases Nat.lt_or_ge i es.length with hl | hl
  · exact hl
  · unfold target at h
    rw [List.getElem?_eq_none hl] at h
    cases h
theorem target_par {es : List Ent} {q : Nat × List Nat} (h : q ∈ (List.range es.length).filterMap (target es)) : isPar q.1 = true := by
  obtain ⟨i, _, h⟩ := List.mem_filterMap.1 h
  rw [target_id h]
  unfold isPar parId
  rw [Nat.beq_eq]
  omega
theorem weak_len : ∀ (l : List VC) (ds : List Nat), (PV.weaken l ds).length = l.length
  | [], ds => by cases ds <;> rfl
  | _ :: _, [] => rfl
  | x :: l, d :: ds => by simp only [PV.weaken, List.length_cons, weak_len l ds]
theorem weak_at : ∀ (l : List VC) (ds : List Nat) (j : Nat) x, l[j]? = some x → ∃ x', (PV.weaken l ds)[j]? = some x' ∧ x'.hv = x.hv ∧ x'.iv = x.iv ∧ ∀ d0 c, x.c = .mk d0 c → ∃ d', x'.c = .mk d' c ∧ ∀ d, ds[j]? = some d → d' = min d0 d
  | [], ds, j, x, h => by simp at h
  | y :: l, [], j, x, h => ⟨x, h, rfl, rfl, fun d0 c hc => ⟨d0, hc, fun d hd => by simp at hd⟩⟩
  | y :: l, d :: ds, 0, x, h => by
    simp only [List.getElem?_cons_zero, Option.some.injEq] at h
    subst h
    refine ⟨_, rfl, rfl, rfl, fun d0 c hc => ⟨min d0 d, by simp only [hc], fun d' hd => ?_⟩⟩
    simp only [List.getElem?_cons_zero, Option.some.injEq] at hd
    rw [hd]
  | y :: l, d :: ds, j + 1, x, h => by
    simp only [List.getElem?_cons_succ] at h
    obtain ⟨x', h1, h2⟩ := weak_at l ds j x h
    exact ⟨x', by simp only [PV.weaken, List.getElem?_cons_succ]; exact h1, by simpa using h2⟩
structure Fr (w0 : World) (Z : Fp) (F : Nat → Fp) (c : Cf) : Prop where
  size : w0.heap.size ≤ c.w.heap.size
  same : ∀ b, b < w0.heap.size → (∀ i, ¬ F i b) → c.w.heap[b]? = w0.heap[b]? ∧ c.O b = none
  z : ∀ b, Z b → c.Z b
  z' : ∀ b, c.Z b → Z b ∨ (∃ i, F i b) ∨ w0.heap.size ≤ b
  env : SameEnv w0 c.w
theorem Fr.to {w0 : World} {Z : Fp} {F : Nat → Fp} {c c' : Cf} (h : Fr w0 Z F c) (t : Ext c c') : Fr w0 Z F c' where
  env := h.env.trans t.env
  size := Nat.le_trans h.size t.size
  same b hb hn := by
    obtain ⟨h1, h2⟩ := h.same b hb hn
    obtain ⟨k1, k2⟩ := t.same b (Nat.lt_of_lt_of_le hb h.size) h2
    exact ⟨k1.trans h1, k2⟩
  z b hb := t.z b (h.z b hb)
  z' b hb := by
    rcases t.z' b hb with h1 | h1 | h1
    · exact h.z' b h1
    · by_cases hl : b < w0.heap.size
      · by_cases hn : ∃ i, F i b
        · exact .inr (.inl hn)
        · exact absurd (h.same b hl fun i hi => hn ⟨i, hi⟩).2 h1
      · exact .inr (.inr (by omega))
    · exact .inr (.inr (Nat.le_trans h.size h1))
theorem ParF.to {c c' : Cf} {pars : List Par} {k : Nat} {us : List Value} (h : ParF c pars k us) (t : To c c') : ParF c' pars k us :=
  ⟨fun i pc u h1 h2 h3 h4 => t.stb _ _ (h.v i pc u h1 h2 h3 h4), fun i n u h1 h2 => t.stb _ _ (h.b i n u h1 h2), fun i n j pc u h1 h2 h3 h4 h5 => t.lk _ _ _ (h.lk i n j pc u h1 h2 h3 h4 h5)⟩
/-- what is known of the parameters at the end -/
structure EndF (c : Cf) (pars : List Par) (us : List Value) (ys : List (Option CV)) : Prop where
  v : ∀ (i : Nat) pc u, (ents pars)[i]? = some (.val pc) → Ent.back (.val pc) = true → us[i]? = some u → ∃ yv, ys[i]? = some (some yv) ∧ yv.s = pc.s ∧ Rep c.w c.Z yv.s pc.d2 yv.x u (fun b => c.O b = some (.cell (parId i) 0))
  b : ∀ (i : Nat) n u, (ents pars)[i]? = some (.box n) → us[i]? = some u → ∃ b ca E fz, u = .pointer (some ⟨b, 0, none⟩) ∧ c.w.heap[b]? = some (.cells ca E fz) ∧ ca.size = n ∧ free fz n ∧ (∀ b', c.O b' = some (.box (parId i)) ↔ b' = b) ∧
    ∀ (j : Nat) pc, j < n → (ents pars)[i + 1 + j]? = some (.cell pc) → (pc.kept = true → ∃ yv u', ys[i + 1 + j]? = some (some yv) ∧ yv.s = pc.s ∧ ca[j]? = some u' ∧ Rep c.w c.Z yv.s pc.d2 yv.x u' (fun b => c.O b = some (.cell (parId i) j))) ∧
      (pc.kept = false → ∀ u', us[i + 1 + j]? = some u' → ca[j]? = some u')
theorem end_facts {c : Cf} (hc : c.Inv) (nd : ND c.O ∨ True) {pars : List Par} {us : List Value} {ys : List (Option CV)} (hp : ParF c pars 0 us) (hb : BackF c.rt pars 0 ys) {T : List (Nat × List Nat)} (hT : (T.map (·.1)).Nodup) (hsub : ∀ q ∈ (List.range (ents pars).length).filterMap (target (ents pars)), q ∈ T)
    {O2 : Own} {Z2 : Fp} (t : To c ⟨weakAll c.rt T, c.w, c.γ, O2, Z2⟩) : EndF ⟨weakAll c.rt T, c.w, c.γ, O2, Z2⟩ pars us ys := by
  have hp2 := hp.to t
  refine ⟨fun i pc u h1 h2 h3 => ?_, fun i n u h1 h2 => ?_⟩
  · obtain ⟨r, x, d, yv, b1, b2, b3, b4, b5, b6, b7, b8, b9⟩ := hb.v i pc h1 h2
    rw [Nat.zero_add] at b2
    have ht : target (ents pars) i = some (parId i, [pc.d2]) := by unfold target; rw [h1]; simp only [h2, cond_true]
    have hrt := weakAll_at T c.rt (parId i) [pc.d2] r hT (hsub _ (target_mem ht)) b2
    obtain ⟨x', w1, w2, _, w3⟩ := weak_at r.cells [pc.d2] 0 x b4
    obtain ⟨d', w4, w5⟩ := w3 d yv b5
    have hd' := w5 pc.d2 rfl
    rw [Nat.min_eq_right b6] at hd'
    subst hd'
    obtain ⟨rv, m1, m2⟩ := (t.inv.root (parId i) _ hrt).cell 0 x' w1
    rw [w4] at m2
    obtain ⟨r', x'', rv', q1, q2, q3, q4, q5⟩ := hp2.v i pc u h1 h2 b8 h3
    rw [Nat.zero_add] at q1 q3
    have q1 : weakAll c.rt T (parId i) = some r' := q1
    rw [hrt] at q1
    obtain rfl := Option.some.inj q1
    rw [w1] at q2
    obtain rfl := Option.some.inj q2
    rw [m1] at q3
    obtain rfl := Option.some.inj q3
    have hro := q5 (by simp only [VC.ver, w2, b7])
    unfold RefOk at hro
    rw [w4] at hro
    obtain ⟨v0, cs, xs, _, n2, _, _, n5⟩ := hro
    simp only [pv, Option.some.injEq] at n2
    subst n2
    rw [cutV_none] at n5
    subst n5
    exact ⟨yv, b1, b9, m2⟩
  · obtain ⟨r, b2, b3, b4⟩ := hb.b i n h1
    rw [Nat.zero_add] at b2
    have ht : target (ents pars) i = some (parId i, (List.range n).map fun j => match (ents pars)[i + 1 + j]? with | some (.cell pc) => pc.d2 | _ => 0) := by unfold target; rw [h1]
    have hrt := weakAll_at T c.rt (parId i) _ r hT (hsub _ (target_mem ht)) b2
    obtain ⟨r', q1, q2, b, q3, q4⟩ := hp2.b i n u h1 h2
    rw [Nat.zero_add] at q1 q3
    have q1 : weakAll c.rt T (parId i) = some r' := q1
    rw [hrt] at q1
    obtain rfl := Option.some.inj q1
    have hk := t.inv.root (parId i) _ hrt
    obtain ⟨b', ca, E, fz, f1, f2, f3, f4, f5⟩ := hk.box q2
    rw [q3] at f1
    obtain rfl : b = b' := by simpa using f1
    have hsz : ca.size = n := by rw [f3]; simp only [weak_len, b3]
    refine ⟨b, ca, E, fz, q4, f2, hsz, by rw [← hsz]; exact f4, f5, fun j pc hj hpc => ⟨fun hkept => ?_, fun hkept u' hu' => ?_⟩⟩
    · obtain ⟨x, d, yv, e1, e2, e3, e4, e5⟩ := b4 j pc hj hpc hkept
      obtain ⟨x', w1, _, _, w3⟩ := weak_at r.cells ((List.range n).map fun j => match (ents pars)[i + 1 + j]? with | some (.cell pc) => pc.d2 | _ => 0) j x e2
      obtain ⟨d', w4, w5⟩ := w3 d yv e3
      have hd' := w5 pc.d2 (by rw [List.getElem?_map, List.getElem?_range hj]; simp only [Option.map_some, hpc])
      obtain ⟨rv, m1, m2⟩ := hk.cell j x' w1
      rw [w4] at m2
      have hrv : ca[j]? = some rv := by
        have m1' := m1
        unfold PV.rootVal at m1'
        rw [q2, q3] at m1'
        simp only [World.cell?] at m1'
        rw [show c.w.heap[b]? = _ from f2] at m1'
        simpa using m1'
      refine ⟨yv, rv, e1, e5, hrv, ?_⟩
      have m2 : Rep c.w Z2 yv.s d' yv.x rv (fun b => O2 b = some (.cell (parId i) j)) := m2
      rcases e4 with e4 | e4
      · rw [hd', Nat.min_eq_right e4] at m2; exact m2
      · exact m2.scalar (by rw [e5]; exact e4)
    · obtain ⟨r', x, k, l1, l2, l3, l4⟩ := hp2.lk i n j pc u' h1 hj hpc hkept hu'
      rw [Nat.zero_add] at l1 l4
      have l1 : weakAll c.rt T (parId i) = some r' := l1
      rw [hrt] at l1
      obtain rfl := Option.some.inj l1
      unfold PV.rootVal at l4
      rw [q2, q3] at l4
      simp only [World.cell?] at l4
      rw [show c.w.heap[b]? = _ from f2] at l4
      simpa using l4
/-! ### the promise -/
def decS (es : List Ent) (res : Option Nat) : Site → Option Site
  | .det n => some (.det n)
  | .box id => if res = some id then some (.det 1) else if isPar id = true then (match es[id / 4]? with | some (.box _) => some (.cell (id / 4) 0) | _ => none) else none
  | .cell id j => if res = some id then some (.det (2 * j)) else if isPar id = true then (match es[id / 4]? with | some (.val _) => if j = 0 then some (.cell (id / 4) 0) else none | some (.box n) => if j < n then some (.cell (id / 4 + 1 + j) 0) else none | _ => none) else none
def decO (es : List Ent) (res : Option Nat) (O : Own) : Own := fun b => (O b).bind (decS es res)
theorem isPar_id {id : Nat} (h : isPar id = true) : id = parId (id / 4) := by
  unfold isPar at h
  rw [Nat.beq_eq] at h
  unfold parId
  omega
theorem parId_is {k : Nat} : isPar (parId k) = true ∧ parId k / 4 = k := by
  unfold isPar parId
  rw [Nat.beq_eq]
  omega
section
variable {pars : List Par} {res : Option Nat} {O : Own}
theorem decO_cell {b k : Nat} (h : decO (ents pars) res O b = some (.cell k 0)) : (∃ pc, (ents pars)[k]? = some (.val pc) ∧ O b = some (.cell (parId k) 0)) ∨ (∃ n, (ents pars)[k]? = some (.box n) ∧ O b = some (.box (parId k))) ∨ ∃ i n j, (ents pars)[i]? = some (.box n) ∧ j < n ∧ k = i + 1 + j ∧ O b = some (.cell (parId i) j) := by
  unfold decO at h
  cases ho : O b with
  | none => rw [ho] at h; cases h
  | some s =>
    rw [ho] at h
    simp only [Option.bind_some] at h
    cases s with
    | det n => cases h
    | box id =>
      simp only [decS] at h
      split at h
      · cases h
      · split at h
        · rename_i hp
          split at h
          · rename_i n hn
            simp only [Option.some.injEq, Site.cell.injEq, and_true] at h
            rw [isPar_id hp]
            subst h
            exact .inr (.inl ⟨n, hn, rfl⟩)
          · cases h
        · cases h
    | cell id j =>
      simp only [decS] at h
      split at h
      · cases h
      · split at h
        · rename_i hp
          split at h
          · rename_i pc hn
            split at h
            · rename_i hj
              simp only [Option.some.injEq, Site.cell.injEq, and_true] at h
              rw [isPar_id hp]
              subst h
              subst hj
              exact .inl ⟨pc, hn, rfl⟩
            · cases h
          · rename_i n hn
            split at h
            · rename_i hj
              simp only [Option.some.injEq, Site.cell.injEq, and_true] at h
              rw [isPar_id hp]
              exact .inr (.inr ⟨_, n, j, hn, hj, h.symm, rfl⟩)
            · cases h
          · cases h
        · cases h
theorem decO_val (hres : ∀ id, res = some id → isPar id = false) {b k : Nat} {pc : PC} (hk : (ents pars)[k]? = some (.val pc)) : decO (ents pars) res O b = some (.cell k 0) ↔ O b = some (.cell (parId k) 0) := by
  constructor
  · intro h
    rcases decO_cell h with ⟨_, _, h⟩ | ⟨n, h1, _⟩ | ⟨i, n, j, h1, h2, h3, _⟩
    · exact h
    · rw [hk] at h1; cases h1
    · obtain ⟨pc', h4⟩ := ents_box h1 j h2
      rw [← h3, hk] at h4; cases h4
  · intro h
    unfold decO
    rw [h]
    simp only [Option.bind_some, decS]
    rw [if_neg (fun e => by have := hres _ e; rw [parId_is.1] at this; cases this), if_pos parId_is.1, parId_is.2, hk]
    simp
theorem decO_box (hres : ∀ id, res = some id → isPar id = false) {b k n : Nat} (hk : (ents pars)[k]? = some (.box n)) : decO (ents pars) res O b = some (.cell k 0) ↔ O b = some (.box (parId k)) := by
  constructor
  · intro h
    rcases decO_cell h with ⟨_, h1, _⟩ | ⟨n, h1, h2⟩ | ⟨i, n, j, h1, h2, h3, _⟩
    · rw [hk] at h1; cases h1
    · exact h2
    · obtain ⟨pc', h4⟩ := ents_box h1 j h2
      rw [← h3, hk] at h4; cases h4
  · intro h
    unfold decO
    rw [h]
    simp only [Option.bind_some, decS]
    rw [if_neg (fun e => by have := hres _ e; rw [parId_is.1] at this; cases this), if_pos parId_is.1, parId_is.2, hk]
theorem decO_bcell (hres : ∀ id, res = some id → isPar id = false) {b i n j : Nat} (hi : (ents pars)[i]? = some (.box n)) (hj : j < n) : decO (ents pars) res O b = some (.cell (i + 1 + j) 0) ↔ O b = some (.cell (parId i) j) := by
  obtain ⟨pc, hpc⟩ := ents_box hi j hj
  constructor
  · intro h
    rcases decO_cell h with ⟨_, h1, _⟩ | ⟨n, h1, h2⟩ | ⟨i', n', j', h1, h2, h3, h4⟩
    · rw [hpc] at h1; cases h1
    · rw [hpc] at h1; cases h1
    · have : i' = i := by
        rcases Nat.lt_trichotomy i i' with q | q | q
        · obtain ⟨pc', h5⟩ := ents_box hi (i' - (i + 1)) (by omega)
          rw [show i + 1 + (i' - (i + 1)) = i' by omega, h1] at h5; cases h5
        · exact q.symm
        · obtain ⟨pc', h5⟩ := ents_box h1 (i - (i' + 1)) (by omega)
          rw [show i' + 1 + (i - (i' + 1)) = i by omega, hi] at h5; cases h5
      subst this
      have : j' = j := by omega
      subst this
      exact h4
  · intro h
    unfold decO
    rw [h]
    simp only [Option.bind_some, decS]
    rw [if_neg (fun e => by have := hres _ e; rw [parId_is.1] at this; cases this), if_pos parId_is.1, parId_is.2, hi]
    simp [hj]
end
theorem ResR.len {w : World} {Z : Fp} {O : Own} : ∀ {rs : List (RK × List (S × Nat))} {i : Nat} {cs : List CV} {vs : List Value}, ResR w Z O rs i cs vs → cs.length = (rs.flatMap (·.2)).length
  | [], _, [], [], _ => rfl
  | (k, l) :: rs, i, cs, v :: vs, h => by
    obtain ⟨c1, c2, us, rfl, h2, _, _, h4⟩ := h
    simp only [List.length_append, List.flatMap_cons, (ResC.len h2).1, ResR.len h4]
theorem post_of {g : Sig} {w0 : World} {Z : Fp} {F : Nat → Fp} {c : Cf} (hc : c.Inv) (hfr : Fr w0 Z F c) {vs us : List Value} (hflat : Flat w0 g.ps vs us) {ys : List (Option CV)} (he : EndF c g.ps us ys) {res : Option Nat} (hres : ∀ id, res = some id → isPar id = false) {out : TupT g.outs} {cs bs : List CV}
    (hout : ofTup g.outs out = cs ++ bs) (hf : fill (ents g.ps) bs = some ys) {rv : List Value} (hrr : ResR c.w c.Z (decO (ents g.ps) res c.O) g.rs 0 cs rv) (hdet : ∀ b k, decO (ents g.ps) res c.O b = some (.det k) → k < 2 * g.res.length) :
    ∃ O Z' us', Post1 g w0 c.w Z F out vs us (packV rv) O Z' us' := by
  have hlen : cs.length = g.res.length := hrr.len
  have htake : (ofTup g.outs out).take g.res.length = cs := by rw [hout, ← hlen, List.take_append_of_le_length (Nat.le_refl _), List.take_length]
  have hdrop : (ofTup g.outs out).drop g.res.length = bs := by rw [hout, ← hlen]; simp
  obtain ⟨us', hflat'⟩ := flat_new (w' := c.w) hflat fun i n u h1 h2 => by
    obtain ⟨b, ca, E, fz, q1, q2, q3, q4, _⟩ := he.b i n u h1 h2
    exact ⟨b, ca, E, fz, q1, q2, q3, q4⟩
  have osome : ∀ b s, decO (ents g.ps) res c.O b = some s → ∃ s', c.O b = some s' := fun b s h => by
    unfold decO at h
    cases ho : c.O b with
    | none => rw [ho] at h; cases h
    | some s' => exact ⟨s', rfl⟩
  refine ⟨decO (ents g.ps) res c.O, c.Z, us', hfr.env, hfr.size, fun b hb hn => (hfr.same b hb hn).1, hflat', hfr.z, hfr.z', fun b hb => ?_, hc.zs, fun b s hs => ?_, ⟨ys, by rw [hdrop]; exact hf, fun k e y u u' h1 h2 h3 h4 => ?_⟩, hdet, rv, by rw [htake]; exact hrr, rfl⟩
  · unfold decO; rw [hc.zo b hb]; rfl
  · obtain ⟨s', ho⟩ := osome b s hs
    refine ⟨hc.os b _ ho, ?_⟩
    by_cases hl : b < w0.heap.size
    · by_cases hn : ∃ i, F i b
      · exact .inl hn
      · have := (hfr.same b hl fun i hi => hn ⟨i, hi⟩).2
        rw [ho] at this; cases this
    · exact .inr (by omega)
  · cases e with
    | val pc =>
      cases y with
      | none => trivial
      | some yv =>
        have hb : Ent.back (.val pc) = true := by
          cases hb : Ent.back (.val pc) with
          | true => rfl
          | false => have := ((fill_at hf).2 k _ h1).2 hb; rw [h2] at this; cases this
        obtain ⟨yv', q1, q2, q3⟩ := he.v k pc u h1 hb h3
        rw [h2] at q1
        obtain rfl := Option.some.inj (Option.some.inj q1)
        refine ⟨q2, ?_⟩
        have e : (fun b => decO (ents g.ps) res c.O b = some (.cell k 0)) = (fun b => c.O b = some (.cell (parId k) 0)) := by funext b; exact propext (decO_val hres h1)
        rw [e]
        exact q3
    | box n =>
      obtain ⟨b, ca, E, fz, q1, q2, q3, q4, q5, _⟩ := he.b k n u h1 h3
      refine ⟨b, q1, ?_⟩
      funext b'
      exact propext ((decO_box hres h1).trans (q5 b'))
    | cell pc =>
      obtain ⟨i, n, j, m1, m2, m3⟩ := ents_cell h1
      subst m2
      have hui : ∃ ui, us[i]? = some ui := by
        have := (List.getElem?_eq_some_iff.1 h3).1
        have : i < us.length := by omega
        exact ⟨us[i], by simp [this]⟩
      obtain ⟨ui, hui⟩ := hui
      obtain ⟨b, ca, E, fz, q1, q2, q3, q4, q5, q6⟩ := he.b i n ui m1 hui
      obtain ⟨b', E', fz', p1, p2, p3, p4⟩ := flat_box hflat' i n m1
      have hbb : b' = b := by
        have := flat_same hflat hflat' i (fun pc hpc => by rw [m1] at hpc; cases hpc)
        rw [p1, hui, q1] at this
        simpa using this
      subst hbb
      rw [p2] at q2
      simp only [Option.some.injEq, Obj.cells.injEq] at q2
      have hca : ca[j]? = some u' := by
        rw [← q2.1]
        have : ((us'.drop (i + 1)).take n)[j]? = some u' := by
          rw [List.getElem?_take_of_lt m3, List.getElem?_drop]
          exact h4
        simpa using this
      obtain ⟨q7, q8⟩ := q6 j pc m3 h1
      cases y with
      | none =>
        have hb : pc.kept = false := by
          cases hb : pc.kept with
          | false => rfl
          | true => obtain ⟨z, hz⟩ := ((fill_at hf).2 _ _ h1).1 hb; rw [h2] at hz; cases hz
        have := q8 hb u h3
        rw [hca] at this
        exact Option.some.inj this
      | some yv =>
        have hb : pc.kept = true := by
          cases hb : pc.kept with
          | true => rfl
          | false => have := ((fill_at hf).2 _ _ h1).2 hb; rw [h2] at this; cases this
        obtain ⟨yv', u2, e1, e2, e3, e4⟩ := q7 hb
        rw [h2] at e1
        obtain rfl := Option.some.inj (Option.some.inj e1)
        rw [hca] at e3
        obtain rfl := Option.some.inj e3
        refine ⟨e2, ?_⟩
        have e : (fun b => decO (ents g.ps) res c.O b = some (.cell (i + 1 + j) 0)) = (fun b => c.O b = some (.cell (parId i) j)) := by funext b; exact propext (decO_bcell hres m1 m3)
        rw [e]
        exact e4
theorem ResC.of {w : World} {Z : Fp} {O : Own} : ∀ {l : List (S × Nat)} {i : Nat} {cs : List CV} {us : List Value}, cs.length = l.length → us.length = l.length → (∀ (j : Nat) s d, l[j]? = some (s, d) → ∃ c u, cs[j]? = some c ∧ us[j]? = some u ∧ c.s = s ∧ Rep w Z c.s d c.x u (fun b => O b = some (.det (2 * (i + j))))) → ResC w Z O l i cs us
  | [], _, [], [], _, _, _ => trivial
  | [], _, _ :: _, _, h, _, _ => by cases h
  | [], _, [], _ :: _, _, h, _ => by cases h
  | _ :: _, _, [], _, h, _, _ => by cases h
  | _ :: _, _, _ :: _, [], _, h, _ => by cases h
  | (s, d) :: l, i, c :: cs, u :: us, h1, h2, h => by
    obtain ⟨c', u', e1, e2, e3, e4⟩ := h 0 s d rfl
    simp only [List.getElem?_cons_zero, Option.some.injEq] at e1 e2
    subst e1
    subst e2
    refine ⟨e3, by simpa using e4, ResC.of (by simpa using h1) (by simpa using h2) fun j s d hj => ?_⟩
    obtain ⟨c', u', f1, f2, f3, f4⟩ := h (j + 1) s d (by simpa using hj)
    exact ⟨c', u', by simpa using f1, by simpa using f2, f3, by rw [show i + 1 + j = i + (j + 1) by omega]; exact f4⟩
theorem outBox_at : ∀ {l : List (S × Nat)} {xs : List VC} {cs : List CV}, outBox l xs = some cs → xs.length = l.length ∧ cs.length = l.length ∧ ∀ (j : Nat) s d, l[j]? = some (s, d) → ∃ x d0 cv, xs[j]? = some x ∧ x.c = .mk d0 cv ∧ cs[j]? = some cv ∧ cv.s = s ∧ (d ≤ d0 ∨ s.isRow = false)
  | [], [], cs, h => by
    simp only [outBox, Option.some.injEq] at h
    subst h
    exact ⟨rfl, rfl, fun j s d hj => by simp at hj⟩
  | [], _ :: _, _, h => by cases h
  | _ :: _, [], _, h => by cases h
  | (s, d) :: l, x :: xs, cs, h => by
    simp only [outBox] at h
    split at h
    · rename_i d0 c hxc
      obtain ⟨hb, h⟩ := cond_s h
      simp only [Bool.or_eq_true, Nat.ble_eq, Bool.not_eq_true'] at hb
      split at h
      · rename_i y hy
        split at h
        · rename_i m hm
          obtain rfl := Option.some.inj h
          obtain ⟨h1, h2, h3⟩ := outBox_at hm
          have hcy := CV.as_some hy
          subst hcy
          refine ⟨by simp [h1], by simp [h2], fun j s' d' hj => ?_⟩
          cases j with
          | zero =>
            simp only [List.getElem?_cons_zero, Option.some.injEq, Prod.mk.injEq] at hj
            obtain ⟨rfl, rfl⟩ := hj
            exact ⟨x, d0, _, rfl, hxc, rfl, rfl, hb⟩
          | succ j => exact h3 j s' d' (by simpa using hj)
        · cases h
      · cases h
    · cases h
theorem finish_sound (ok : ∀ t, tyOk Pg t (cx.ty t) = true) {g : Sig} (hsig : ∀ r ∈ g.rs, 0 < r.2.length) {fn : Func} {nt : Nat} {c : Cf} {s : St} {a : Act} (hat : At nt c s a) {out : TupT g.outs} (h : finish cx.ty g fn.results.toList s = some out)
    {w0 : World} {Z : Fp} {F : Nat → Fp} (hfr : Fr w0 Z F c) {vs us : List Value} (hflat : Flat w0 g.ps vs us) (hpar : ParF c g.ps 0 us) :
    ∃ v, (results fn a.tmps).run Pg c.w = .ok v c.w ∧ ∃ O Z' us', Post1 g w0 c.w Z F out vs us v O Z' us' := by
  unfold finish at h
  split at h
  · cases h
  · rename_i pss hps
    obtain ⟨vals, hres, hl, hV⟩ := results_run (fn := fn) ok hat hps
    refine ⟨packV vals, hres, ?_⟩
    split at h
    · cases h
    · rename_i cs rt1 hout
      split at h
      · cases h
      · rename_i bs hbs
        have hof := ofTup_of h
        obtain ⟨ys, hf, hbf⟩ := backs_spec hbs
        rw [← hat.rt] at hout
        unfold outs at hout
        split at hout
        · -- a new variable's address
          rename_i l p hrs
          split at hout
          · rename_i cs' hptr
            simp only [Option.some.injEq, Prod.mk.injEq] at hout
            obtain ⟨rfl, rfl⟩ := hout
            unfold outPtr at hptr
            split at hptr
            · rename_i id j st n
              split at hptr
              · obtain ⟨hb, hptr2⟩ := cond_n hptr
                clear hptr
                simp only [Bool.or_eq_false_iff, Bool.not_eq_false', Nat.beq_eq] at hb
                obtain ⟨rfl, hnp⟩ := hb
                split at hptr2
                · rename_i r hr
                  obtain ⟨hvirt, hptr⟩ := cond_n hptr2
                  clear hptr2
                  obtain ⟨x1, x2, x3⟩ := outBox_at hptr
                  -- less is owned
                  let T := (id, l.map (·.2)) :: (List.range (ents g.ps).length).filterMap (target (ents g.ps))
                  have hT : (T.map (·.1)).Nodup := by
                    simp only [T, List.map_cons]
                    refine List.nodup_cons.2 ⟨fun hm => ?_, target_nodup List.nodup_range⟩
                    obtain ⟨q, m1, m2⟩ := List.mem_map.1 hm
                    have := target_par m1
                    rw [m2, hnp] at this
                    cases this
                  obtain ⟨O2, Z2, t2, n2'⟩ := weakAll_to T c hat.inv
                  have n2 : ND O2 := fun b k hb => hat.nd b k ((n2' b k).1 hb)
                  have he := end_facts hat.inv (.inr trivial) hpar hbf hT (fun q hq => List.mem_cons_of_mem _ hq) t2
                  have hrt := weakAll_at T c.rt id (l.map (·.2)) r hT (by simp [T]) hr
                  have hk := t2.inv.root id _ hrt
                  obtain ⟨b, ca, E, fz, f1, f2, f3, f4, f5⟩ := hk.box hvirt
                  have hres : ∀ id', some id = some id' → isPar id' = false := fun id' e => by rw [← Option.some.inj e]; exact hnp
                  have hvv := hV 0 _ (vals.headD undef) rfl (by
                    match vals, hl with
                    | [v], _ => rfl)
                  obtain ⟨p', hp1, hp2⟩ := hvv
                  simp only [List.cons.injEq, and_true] at hp1
                  subst hp1
                  have hp3 := PR_stab t2.stb hp2
                  obtain ⟨r', q1, q2, b', q3, q4⟩ := hp3
                  rw [show c.γ id = _ from f1] at q3
                  obtain rfl : b = b' := by simpa using q3
                  have hO : ∀ b' j, decO (ents g.ps) (some id) O2 b' = some (.det (2 * j)) ↔ O2 b' = some (.cell id j) := fun b' j => by
                    unfold decO
                    constructor
                    · intro hd
                      cases ho : O2 b' with
                      | none => rw [ho] at hd; cases hd
                      | some sx =>
                        rw [ho] at hd
                        simp only [Option.bind_some] at hd
                        cases sx with
                        | det n => exact absurd ho (n2 b' n)
                        | box i =>
                          simp only [decS] at hd
                          split at hd
                          · simp only [Option.some.injEq, Site.det.injEq] at hd; omega
                          · split at hd
                            · split at hd <;> cases hd
                            · cases hd
                        | cell i k =>
                          simp only [decS] at hd
                          split at hd
                          · rename_i e
                            simp only [Option.some.injEq, Site.det.injEq] at hd e
                            subst e
                            rw [show k = j by omega]
                          · split at hd
                            · split at hd
                              · split at hd <;> cases hd
                              · split at hd <;> cases hd
                              · cases hd
                            · cases hd
                    · intro ho
                      rw [ho]
                      simp [decS]
                  have hO1 : ∀ b' n, n % 2 = 1 → (decO (ents g.ps) (some id) O2 b' = some (.det n) ↔ n = 1 ∧ O2 b' = some (.box id)) := fun b' n hn => by
                    unfold decO
                    constructor
                    · intro hd
                      cases ho : O2 b' with
                      | none => rw [ho] at hd; cases hd
                      | some sx =>
                        rw [ho] at hd
                        simp only [Option.bind_some] at hd
                        cases sx with
                        | det n => exact absurd ho (n2 b' n)
                        | box i =>
                          simp only [decS] at hd
                          split at hd
                          · rename_i e
                            simp only [Option.some.injEq, Site.det.injEq] at hd e
                            subst e
                            exact ⟨hd.symm, rfl⟩
                          · split at hd
                            · split at hd <;> cases hd
                            · cases hd
                        | cell i k =>
                          simp only [decS] at hd
                          split at hd
                          · simp only [Option.some.injEq, Site.det.injEq] at hd; omega
                          · split at hd
                            · split at hd
                              · split at hd <;> cases hd
                              · split at hd <;> cases hd
                              · cases hd
                            · cases hd
                    · rintro ⟨rfl, ho⟩
                      rw [ho]
                      simp [decS]
                  have hclen : ca.size = l.length := by rw [f3]; simp only [weak_len, x1]
                  have hl0 : 0 < l.length := hsig (.ptr, l) (by rw [hrs]; simp)
                  have hvals : vals = [vals.headD undef] := by
                    match vals, hl with
                    | [v], _ => rfl
                  have hrr : ResR c.w Z2 (decO (ents g.ps) (some id) O2) g.rs 0 cs' vals := by
                    rw [hvals, hrs]
                    refine ⟨cs', [], ca.toList, by simp, ResC.of x2 (by simpa using hclen) fun j sh d hj => ?_, fun b' k' hk1 hk2 hb' => ⟨rfl, ?_⟩, ⟨b, E, fz, q4, by simpa using f2, by simpa using f4, fun b' => ?_⟩, trivial⟩
                    · obtain ⟨x, d0, cv, y1, y2, y3, y4, y5⟩ := x3 j sh d hj
                      obtain ⟨x', w1, _, _, w3⟩ := weak_at r.cells (l.map (·.2)) j x y1
                      obtain ⟨d', w4, w5⟩ := w3 d0 cv y2
                      have hd' := w5 d (by rw [List.getElem?_map, hj]; rfl)
                      obtain ⟨rv, m1, m2⟩ := hk.cell j x' w1
                      rw [w4] at m2
                      have hrv : ca[j]? = some rv := by
                        unfold PV.rootVal at m1
                        rw [hvirt, show c.γ id = _ from f1] at m1
                        simp only [World.cell?] at m1
                        rw [show c.w.heap[b]? = _ from f2] at m1
                        simpa using m1
                      refine ⟨cv, rv, y3, by simpa using hrv, y4, ?_⟩
                      have e : (fun b => decO (ents g.ps) (some id) O2 b = some (.det (2 * (0 + j)))) = (fun b => O2 b = some (.cell id j)) := by funext b'; rw [Nat.zero_add]; exact propext (hO b' j)
                      rw [e]
                      have m2 : Rep c.w Z2 cv.s d' cv.x rv (fun b => O2 b = some (.cell id j)) := m2
                      rcases y5 with y5 | y5
                      · rw [hd', Nat.min_eq_right y5] at m2; exact m2
                      · exact m2.scalar (by rw [y4]; exact y5)
                    · have := ((hO1 b' (2 * k' + 1) (by omega)).1 hb').1
                      omega
                    · rw [hO1 b' (2 * 0 + 1) (by omega)]
                      exact ⟨fun h => (f5 b').1 h.2, fun h => ⟨by omega, (f5 b').2 h⟩⟩
                  refine post_of (c := ⟨weakAll c.rt T, c.w, c.γ, O2, Z2⟩) t2.inv (hfr.to t2.ext) hflat he hres hof hf hrr fun b' k hk' => ?_
                  have hrl : g.res.length = l.length := by unfold Sig.res; rw [hrs]; simp
                  rw [hrl]
                  rcases Nat.mod_two_eq_zero_or_one k with h0 | h1
                  · have := (hO b' (k / 2)).1 (by rw [show 2 * (k / 2) = k by omega]; exact hk')
                    by_cases hlt : k / 2 < l.length
                    · omega
                    · exact absurd this (hk.beyond (k / 2) (by simp only [weak_len, x1]; omega) b')
                  · have := ((hO1 b' k h1).1 hk').1
                    omega
                · cases hptr2
              · cases hptr
            · cases hptr
          · cases hout
        · -- values
          obtain ⟨O1, Z1, t1, r1, a1, b1⟩ := outAll_to (i := 0) hout hat.inv (fun b k _ => hat.nd b k) hl hV
          let T := (List.range (ents g.ps).length).filterMap (target (ents g.ps))
          have hT : (T.map (·.1)).Nodup := target_nodup List.nodup_range
          obtain ⟨O2, Z2, t2, n2⟩ := weakAll_to T ⟨rt1, c.w, c.γ, O1, Z1⟩ t1.inv
          have he := end_facts (c := ⟨rt1, c.w, c.γ, O1, Z1⟩) t1.inv (.inr trivial) (hpar.to t1) hbf hT (fun q hq => hq) t2
          have hO : ∀ b k, decO (ents g.ps) none O2 b = some (.det k) ↔ O1 b = some (.det k) := fun b k => by
            rw [← show (O2 b = some (.det k) ↔ O1 b = some (.det k)) from n2 b k]
            unfold decO
            constructor
            · intro hd
              cases ho : O2 b with
              | none => rw [ho] at hd; cases hd
              | some sx =>
                rw [ho] at hd
                simp only [Option.bind_some] at hd
                cases sx with
                | det n => exact hd
                | box i =>
                  simp only [decS] at hd
                  split at hd
                  · rename_i e; cases e
                  · split at hd
                    · split at hd <;> cases hd
                    · cases hd
                | cell i k =>
                  simp only [decS] at hd
                  split at hd
                  · rename_i e; cases e
                  · split at hd
                    · split at hd
                      · split at hd <;> cases hd
                      · split at hd <;> cases hd
                      · cases hd
                    · cases hd
            · intro ho
              rw [ho]
              rfl
          refine post_of (c := ⟨weakAll rt1 T, c.w, c.γ, O2, Z2⟩) (res := none) t2.inv ((hfr.to t1.ext).to t2.ext) hflat he (fun id e => by cases e) hof hf (ResR.map (fun k _ b => hO b k) (fun s d _ x u G hr => hr.mono t2.ext.z) r1) fun b k hk => ?_
          have h1 := (hO b k).1 hk
          rcases Nat.lt_or_ge k (2 * g.res.length) with h2 | h2
          · exact h2
          · exact absurd h1 (b1 b k (by simpa [Sig.res] using h2))
end Go.PV

/- All functions, so many calls deep: what the table says, the program does. -/
namespace Go.PV
variable {Pg : Program} {cx : Cx}
theorem needV_val : ∀ {pars : List Par} {k i : Nat} {pc : PC}, (ents pars)[i]? = some (.val pc) → Ent.back (.val pc) = true → parId (k + i) ∈ needV k pars
  | [], k, i, pc, h, _ => by simp [ents] at h
  | .val a l :: ps, k, i, pc, h, hb => by
    simp only [ents] at h
    simp only [needV, List.mem_append]
    rcases split_at h with h1 | ⟨m, rfl, h1⟩
    · rw [List.getElem?_map, Option.map_eq_some_iff] at h1
      obtain ⟨pc', g1, g2⟩ := h1
      cases g2
      refine .inl (List.mem_filterMap.2 ⟨(pc, k + i), ?_, ?_⟩)
      · rw [List.mk_mem_zipIdx_iff_le_and_getElem?_sub]
        exact ⟨by omega, by rw [show k + i - k = i by omega]; exact g1⟩
      · simp only
        rw [show (pc.kept && !(Nat.beq pc.d 0)) = true from hb]
        rfl
    · have := needV_val (k := k + l.length) h1 hb
      rw [List.length_map, show k + (l.length + m) = k + l.length + m by omega]
      exact .inr this
  | .ptr l :: ps, k, i, pc, h, hb => by
    simp only [ents] at h
    cases i with
    | zero => simp at h
    | succ i =>
      simp only [List.getElem?_cons_succ] at h
      rcases split_at h with h1 | ⟨m, rfl, h1⟩
      · rw [List.getElem?_map, Option.map_eq_some_iff] at h1
        obtain ⟨_, _, g2⟩ := h1
        cases g2
      · have := needV_val (k := k + 1 + l.length) h1 hb
        rw [List.length_map, show k + (l.length + m + 1) = k + 1 + l.length + m by omega]
        exact this
theorem needB_box : ∀ {pars : List Par} {k i n : Nat}, (ents pars)[i]? = some (.box n) → parId (k + i) ∈ needB k pars
  | [], k, i, n, h => by simp [ents] at h
  | .val a l :: ps, k, i, n, h => by
    simp only [ents] at h
    simp only [needB]
    rcases split_at h with h1 | ⟨m, rfl, h1⟩
    · rw [List.getElem?_map, Option.map_eq_some_iff] at h1
      obtain ⟨_, _, g2⟩ := h1
      cases g2
    · have := needB_box (k := k + l.length) h1
      rw [List.length_map, show k + (l.length + m) = k + l.length + m by omega]
      exact this
  | .ptr l :: ps, k, i, n, h => by
    simp only [ents] at h
    simp only [needB, List.mem_cons]
    cases i with
    | zero => exact .inl rfl
    | succ i =>
      simp only [List.getElem?_cons_succ] at h
      rcases split_at h with h1 | ⟨m, rfl, h1⟩
      · rw [List.getElem?_map, Option.map_eq_some_iff] at h1
        obtain ⟨_, _, g2⟩ := h1
        cases g2
      · have := needB_box (k := k + 1 + l.length) h1
        rw [List.length_map, show k + (l.length + m + 1) = k + 1 + l.length + m by omega]
        exact .inr this
theorem tmOf_at : ∀ {ps : List P} {i t : Nat}, tmOf ps i t = .dead ∨ ∃ m p, t = i + m ∧ ps[m]? = some p ∧ tmOf ps i t = p
  | [], i, t => .inl rfl
  | p :: ps, i, t => by
    simp only [tmOf]
    cases hb : Nat.beq t i with
    | true => exact .inr ⟨0, p, by rw [Nat.eq_of_beq_eq_true hb]; rfl, rfl, rfl⟩
    | false =>
      rcases tmOf_at (ps := ps) (i := i + 1) (t := t) with h | ⟨m, q, h1, h2, h3⟩
      · exact .inl h
      · exact .inr ⟨m + 1, q, by omega, h2, h3⟩
theorem Sub.fr {w0 : World} {Z : Fp} {F : Nat → Fp} {nv nb : List Nat} {c c' : Cf} (h : Fr w0 Z F c) (t : Sub nv nb c c') : Fr w0 Z F c' where
  env := h.env.trans t.env
  size := Nat.le_trans h.size t.size
  same b hb hn := by
    obtain ⟨h1, h2⟩ := h.same b hb hn
    obtain ⟨k1, k2⟩ := t.same b (Nat.lt_of_lt_of_le hb h.size) h2
    exact ⟨k1.trans h1, k2⟩
  z b hb := t.z b (h.z b hb)
  z' b hb := by
    rcases t.z' b hb with h1 | h1 | h1
    · exact h.z' b h1
    · by_cases hl : b < w0.heap.size
      · by_cases hn : ∃ i, F i b
        · exact .inr (.inl hn)
        · exact absurd (h.same b hl fun i hi => hn ⟨i, hi⟩).2 h1
      · exact .inr (.inr (by omega))
    · exact .inr (.inr (Nat.le_trans h.size h1))
theorem Sub.par {pars : List Par} {us : List Value} {c c' : Cf} (h : ParF c pars 0 us) (t : Sub (needV 0 pars) (needB 0 pars) c c') : ParF c' pars 0 us :=
  ⟨fun i pc u h1 h2 h3 h4 => t.v _ (needV_val h1 h2) u (h.v i pc u h1 h2 h3 h4), fun i n u h1 h2 => (t.b _ (needB_box h1)).1 u (h.b i n u h1 h2), fun i n j pc u h1 h2 h3 h4 h5 => (t.b _ (needB_box h1)).2 j u (h.lk i n j pc u h1 h2 h3 h4 h5)⟩
theorem run_sound (ok : ∀ t, tyOk Pg t (cx.ty t) = true) (okE : ∀ t, cx.eqs t = true → eqOk Pg t (cx.ty t) = true) (hcall : CallOk Pg cx) (hsig : sigsOk cx) (hmix : Pg.follows .mixedOrders = true)
    {g : Sig} (hg : ∀ r ∈ g.rs, 0 < r.2.length) (hv : cx.nv = needV 0 g.ps) (hb : cx.nb = needB 0 g.ps) {f : Nat} {fn : Func} {body : Code} (h1 : Pg.funcs[f]? = some fn) (h2 : fn.body = some body) (h3 : fn.name ≠ "runtime.NumGoroutine") (h4 : cx.nt ≤ fn.ntmps) :
    Contract Pg g f (run cx g fn.results.toList body) := by
  intro args out h
  refine ⟨⟨fn, body, h1, h2, h3⟩, fun w Z F vs us hp => ?_⟩
  unfold run at h
  split at h
  · cases h
  · rename_i ps rs hen
    obtain ⟨xs, hpad, hE⟩ := hp.ent
    have hbase := baseC_inv (w := w) (Z := Z) (F := F) hp.one hp.off hp.zs
    have hb0 : Ent0 F (baseC w Z F) (0 + (ents g.ps).length) := by
      refine ⟨fun b i => ?_, fun i _ => rfl⟩
      rw [Nat.zero_add]
      constructor
      · intro hd
        obtain ⟨j, e, hj⟩ := (baseO_iff hp.one).1 hd
        cases e
        refine ⟨hj, ?_⟩
        rcases Nat.lt_or_ge i (ents g.ps).length with hl | hl
        · exact hl
        · exact absurd hj (hp.fin i hl b)
      · rintro ⟨hf, _⟩
        exact (baseO_iff hp.one).2 ⟨i, rfl, hf⟩
    obtain ⟨γ, O, t, e0, hl, hP, hpar⟩ := enter_to (F := F) hen hpad hp.flat (fun i e x u q1 q2 q3 => by rw [Nat.zero_add]; exact hE i e x u q1 q2 q3) hbase hb0
    have hnd : ND O := fun b k hd => by have := ((e0.det b k).1 hd).2; omega
    have hfr : Fr w Z F ⟨rtOf rs, w, γ, O, Z⟩ := by
      refine ⟨Nat.le_refl _, fun b hb hn => ⟨rfl, (t.ext.same b hb (baseO_none.2 hn)).2⟩, fun b hb => hb, fun b hb => .inl hb, SameEnv.refl _⟩
    let a : Act := { tmps := vs.toArray ++ Array.replicate (fn.ntmps - vs.toArray.size) undef, defers := [] }
    have hat : At cx.nt ⟨rtOf rs, w, γ, O, Z⟩ ⟨tmOf ps 0, rtOf rs⟩ a := by
      refine ⟨t.inv, hnd, rfl, ?_, rfl, fun k => ?_⟩
      · simp only [a, Array.size_append, Array.size_replicate]
        omega
      · rcases tmOf_at (ps := ps) (i := 0) (t := k) with q | ⟨m, p, rfl, q2, q3⟩
        · simp only [q]; exact PR_dead
        · simp only [q3]
          have hm := (List.getElem?_eq_some_iff.1 q2).1
          have hmv : m < vs.length := by omega
          have e : a.tmps.getD (0 + m) undef = vs[m] := by
            simp only [a, Nat.zero_add, Array.getD_eq_getD_getElem?]
            rw [Array.getElem?_append_left (by simpa using hmv)]
            simp [hmv]
          rw [e]
          exact hP m p vs[m] q2 (by simp [hmv])
    refine calls_of_wp h1 h2 (exec_sound ok okE hcall hsig hmix (c0 := ⟨rtOf rs, w, γ, O, Z⟩) body 0 _ _ _ _ ⟨rtOf rs, w, γ, O, Z⟩ a _ h hat (To.refl t.inv).sub ?_ ?_ ?_)
    · intro c' s' a' hat' hs' hk
      rw [hv, hb] at hs'
      obtain ⟨v, r1, r2⟩ := finish_sound (fn := fn) ok hg hat' hk (Sub.fr hfr hs') hp.flat (Sub.par hpar hs')
      exact ⟨hat'.df, v, r1, v, rfl, r2⟩
    · intro i c' s' a' _ _ hk; cases hk
    · intro c' s' a' hat' hs' hk
      rw [hv, hb] at hs'
      obtain ⟨v, r1, r2⟩ := finish_sound (fn := fn) ok hg hat' hk (Sub.fr hfr hs') hp.flat (Sub.par hpar hs')
      exact ⟨hat'.df, v, r1, v, rfl, r2⟩
/-- a function's form is the program's -/
def FnOk (Pg : Program) (f : Nat) (F : Fn) : Prop := (∃ fn, Pg.funcs[f]? = some fn ∧ fn.body = some F.body ∧ fn.results.toList = F.rv ∧ F.nt ≤ fn.ntmps ∧ fn.name ≠ "runtime.NumGoroutine") ∨ ∃ s, F.body = .refuse s
theorem table_sound {ty : Nat → TyI} {eqs : Nat → Bool} {fs : Nat → Fn} {ext : (f : Nat) → Option (TupT (fs f).sig.ins → Option (TupT (fs f).sig.outs))} {rounds : Nat} (ok : ∀ t, tyOk Pg t (ty t) = true) (okE : ∀ t, eqs t = true → eqOk Pg t (ty t) = true) (hmix : Pg.follows .mixedOrders = true)
    (hsig : ∀ f, ∀ r ∈ (fs f).sig.rs, 0 < r.2.length) (hfn : ∀ f, ext f = none → FnOk Pg f (fs f)) (hext : ∀ f law, ext f = some law → Contract Pg (fs f).sig f law) : ∀ (d f : Nat), Contract Pg (fs f).sig f (table ty eqs fs ext rounds d f)
  | 0, f => fun args out h => by cases h
  | d + 1, f => by
    intro args out h
    have ih := table_sound ok okE hmix hsig hfn hext d (rounds := rounds)
    simp only [table] at h
    cases he : ext f with
    | some law =>
      rw [he] at h
      exact hext f law he args out h
    | none =>
      rw [he] at h
      simp only at h
      rcases hfn f he with ⟨fn, h1, h2, h3, h4, h5⟩ | ⟨s, hs⟩
      · rw [← h3] at h
        exact run_sound (cx := ⟨(fs f).nt, ty, eqs, fun g => (fs g).sig, table ty eqs fs ext rounds d, (fs f).hint, (fs f).join, rounds, needV 0 (fs f).sig.ps, needB 0 (fs f).sig.ps⟩) ok okE (call_ok ih hsig) hsig hmix (hsig f) rfl rfl h1 h2 h5 h4 args out h
      · rw [hs] at h
        unfold run at h
        split at h
        · cases h
        · cases h
end Go.PV

/- Functions of Go's library that are given otherwise: what they promise, as the interpreter wants it. No condition but what each says. -/
namespace Go.PV
variable {Pg : Program}
def spaceB : ByteArray := ⟨#[32]⟩
def splitL (a : ByteArray) : List ByteArray := Lib.splitB spaceB 0 (Lib.countB a spaceB) a
/-- What strings.Split answers at a blank. -/
def splitLaw (a : ByteArray × ByteArray) : Option (List ByteArray) := if a.2 = spaceB ∧ a.1.size < 4294967281 then some (splitL a.1) else none
def joinS (l : List ByteArray) (s : ByteArray) : ByteArray := ⟨(Lib.join (l.map (·.data.toList)) s.data.toList).toArray⟩
/-- What strings.Join answers. -/
def joinLaw (a : List ByteArray × ByteArray) : Option ByteArray := if a.1.length ≤ 140737488355328 ∧ (joinS a.1 a.2).size ≤ 140737488355328 then some (joinS a.1 a.2) else none
def splitSig : Sig := ⟨[.val false [⟨.str, 0, 0, false⟩], .val false [⟨.str, 0, 0, false⟩]], [(.one, [(.row (.one .str), 1)])]⟩
def joinSig : Sig := ⟨[.val false [⟨.row (.one .str), 0, 0, false⟩], .val false [⟨.str, 0, 0, false⟩]], [(.one, [(.str, 0)])]⟩
theorem two_in {w : World} {a b : PC} : ∀ {vs us : List Value}, Flat w [.val false [a], .val false [b]] vs us → ∃ v1 v2, vs = [v1, v2] ∧ us = [v1, v2]
  | [], us, h => absurd h (by simp [Flat])
  | [v], us, h => by
    obtain ⟨u1, u2, _, _, _, h⟩ := h
    exact absurd h (by simp [Flat])
  | v :: v2 :: v3 :: vs, us, h => by
    obtain ⟨u1, u2, _, _, _, u3, u4, _, _, _, h⟩ := h
    exact absurd h (by simp [Flat])
  | [v, v2], us, h => by
    obtain ⟨u1, u2, e1, _, h1, u3, u4, e2, _, h2, h3⟩ := h
    have h1 : u1 = [v] := h1
    have h2 : u3 = [v2] := h2
    have h3 : u4 = [] := h3
    subst h1 h2 h3 e2 e1
    exact ⟨v, v2, rfl, rfl⟩
theorem two_out {w : World} {a b : PC} {v1 v2 : Value} : Flat w [.val false [a], .val false [b]] [v1, v2] [v1, v2] := ⟨[v1], [v2], rfl, rfl, rfl, [v2], [], rfl, rfl, rfl, rfl⟩
theorem split_contract {f : Nat} {E : TypeId} (hf : ∃ fn code, Pg.funcs[f]? = some fn ∧ fn.body = some code ∧ fn.name ≠ "runtime.NumGoroutine")
    (h : ∀ (s : ByteArray) (w : World), s.size < 4294967281 → Calls Pg f #[.string s, .string spaceB] w fun e w' => e = .returned (.slice (some ⟨w.heap.size, 0, none⟩) (splitL s).length (splitL s).length) ∧ w' = w.alloc (.cells ((splitL s).map Value.string).toArray E)) :
    Contract Pg splitSig f splitLaw := by
  intro args out ho
  refine ⟨hf, fun w Z F vs us hp => ?_⟩
  obtain ⟨v1, v2, rfl, rfl⟩ := two_in hp.flat
  obtain ⟨s, t⟩ := args
  unfold splitLaw at ho
  split at ho
  rotate_left
  · cases ho
  rename_i hb
  obtain ⟨h1, h2⟩ := hb
  simp only at h1 h2
  subst h1
  obtain rfl := Option.some.inj ho
  obtain ⟨xs, hx, hE⟩ := hp.ent
  obtain rfl := Option.some.inj hx
  have e1 : v1 = .string s := (hE 0 _ _ _ rfl rfl rfl).2.1
  have e2 : v2 = .string spaceB := (hE 1 _ _ _ rfl rfl rfl).2.1
  subst e1 e2
  refine (h s w h2).mono fun e w' ⟨he, hw⟩ => ⟨_, he, fun b => if b = w.heap.size then some (.det 0) else none, Z, [.string s, .string spaceB], ?_⟩
  subst hw
  have sz : (w.alloc (.cells ((splitL s).map Value.string).toArray E)).heap.size = w.heap.size + 1 := Array.size_push _
  refine { env := ⟨rfl, rfl, rfl⟩, size := ?_, same := ?_, flat := two_out (w := w.alloc (.cells ((splitL s).map Value.string).toArray E)), z := fun b h => h, z' := fun b h => .inl h, zo := ?_, zs := ?_, os := ?_, back := ?_, det := ?_, res := ?_ }
  · show _ ≤ (w.alloc (.cells ((splitL s).map Value.string).toArray E)).heap.size
    omega
  · intro b hb _
    simp only [World.alloc]
    rw [Array.getElem?_push_lt hb, Array.getElem?_eq_getElem hb]
  · intro b hz
    have := hp.zs b hz
    rw [if_neg (by omega)]
  · intro b hz
    have := hp.zs b hz
    show _ < (w.alloc (.cells ((splitL s).map Value.string).toArray E)).heap.size
    omega
  · intro b k hk
    by_cases c : b = w.heap.size
    · refine ⟨?_, .inr (by omega)⟩
      show _ < (w.alloc (.cells ((splitL s).map Value.string).toArray E)).heap.size
      omega
    · rw [if_neg c] at hk; cases hk
  · refine ⟨[none, none], rfl, ?_⟩
    intro k e y u u' g1 g2 g3 g4
    match k, g1, g2 with
    | 0, g1, g2 => cases g1; cases g2; trivial
    | 1, g1, g2 => cases g1; cases g2; trivial
    | k + 2, g1, g2 => simp at g2
  · intro b k hk
    by_cases c : b = w.heap.size
    · rw [if_pos c] at hk; cases hk; decide
    · rw [if_neg c] at hk; cases hk
  · refine ⟨[_], ⟨_, [], [_], (List.append_nil _).symm, ⟨rfl, ?_, trivial⟩, ?_, rfl, trivial⟩, rfl⟩
    · refine ⟨some ⟨w.heap.size, 0, none⟩, (splitL s).length, ?_, ?_, .inr ⟨w.heap.size, ((splitL s).map Value.string).toArray, E, (0, 0), fun _ => nil', rfl, ?_, ?_, ?_, ?_, ?_, ?_, ?_⟩⟩
      · rfl
      · exact Nat.le_refl _
      · show (w.alloc (.cells ((splitL s).map Value.string).toArray E)).heap[w.heap.size]? = _
        exact Array.getElem?_push_size
      · simp [SS.size]
      · intro i _ hi; exact absurd hi.2 (Nat.not_lt_zero _)
      · intro i hi
        refine ⟨.string ((splitL s)[i]'hi), ?_, rfl, rfl⟩
        show (w.alloc (.cells ((splitL s).map Value.string).toArray E)).cell? ⟨w.heap.size, i * 1, none⟩ = _
        rw [World.cell?_alloc_new]
        simp [hi]
      · funext b
        refine propext ⟨fun hb => ?_, fun hb => ?_⟩
        · by_cases c : b = w.heap.size
          · exact .inl c
          · simp only [c, if_false] at hb; cases hb
        · rcases hb with hb | ⟨i, _, hb⟩
          · simp [hb]
          · exact absurd hb (by simp [nil'])
      · intro i _ hh; exact absurd hh (by simp [nil'])
      · intro i j _ _ _ b hh; exact absurd hh (by simp [nil'])
    · intro b k' _ hk hh
      by_cases c : b = w.heap.size
      · simp only [if_pos c] at hh
        cases hh
      · simp only [if_neg c] at hh; cases hh
theorem join_contract {f : Nat} (hf : ∃ fn code, Pg.funcs[f]? = some fn ∧ fn.body = some code ∧ fn.name ≠ "runtime.NumGoroutine")
    (h0 : ∀ (A : Option Addr) (c : Nat) (s : ByteArray) (w : World), Calls Pg f #[.slice A 0 c, .string s] w fun e w' => e = .returned (.string (joinS [] s)) ∧ w' = w)
    (h : ∀ (bk o c : Nat) (l : List ByteArray) (s : ByteArray) (w : World), (∀ j x, l[j]? = some x → w.cell? ⟨bk, o + j, none⟩ = some (.string x)) → bk < w.heap.size → l.length ≤ 140737488355328 → l.length ≤ c → (joinS l s).size ≤ 140737488355328 →
      Calls Pg f #[.slice (some ⟨bk, o, none⟩) l.length c, .string s] w fun e w' => e = .returned (.string (joinS l s)) ∧ RowKit.Below w.heap.size w w') :
    Contract Pg joinSig f joinLaw := by
  intro args out ho
  refine ⟨hf, fun w Z F vs us hp => ?_⟩
  obtain ⟨v1, v2, rfl, rfl⟩ := two_in hp.flat
  obtain ⟨l, t⟩ := args
  unfold joinLaw at ho
  split at ho
  rotate_left
  · cases ho
  rename_i hb
  obtain ⟨h1, h2⟩ := hb
  simp only at h1 h2
  obtain rfl := Option.some.inj ho
  obtain ⟨xs, hx, hE⟩ := hp.ent
  obtain rfl := Option.some.inj hx
  obtain ⟨_, A, cap, q1, q2, q3, q4⟩ := hE 0 _ _ _ rfl rfl rfl
  have e2 : v2 = .string t := (hE 1 _ _ _ rfl rfl rfl).2.1
  subst q1 e2
  have fin : ∀ w', RowKit.Below w.heap.size w w' → Post1 joinSig w w' Z F (joinS l t) [.slice A l.length cap, .string t] [.slice A l.length cap, .string t] (.string (joinS l t)) (fun _ => none) Z [.slice A l.length cap, .string t] := fun w' hw => by
    refine { env := ?_, size := ?_, same := ?_, flat := two_out (w := w'), z := fun b h => h, z' := fun b h => .inl h, zo := fun _ _ => rfl, zs := ?_, os := ?_, back := ?_, det := ?_, res := ?_ }
    · exact ⟨hw.os, hw.tape, hw.output⟩
    · exact hw.size
    · intro b hb _; exact hw.block b hb
    · intro b hz; exact Nat.lt_of_lt_of_le (hp.zs b hz) hw.size
    · intro b k hk; cases hk
    · refine ⟨[none, none], rfl, ?_⟩
      intro k e y u u' g1 g2 g3 g4
      match k, g1, g2 with
      | 0, g1, g2 => cases g1; cases g2; trivial
      | 1, g1, g2 => cases g1; cases g2; trivial
      | k + 2, g1, g2 => simp at g2
    · intro b k hk; cases hk
    · refine ⟨[_], ⟨_, [], [_], (List.append_nil _).symm, ⟨rfl, ⟨rfl, ?_⟩, trivial⟩, ?_, rfl, trivial⟩, rfl⟩
      · funext b; simp [nil']
      · intro b k' _ hk hh; cases hh
  rcases Nat.eq_zero_or_pos l.length with z | z
  · obtain rfl := List.eq_nil_of_length_eq_zero z
    refine (h0 A cap t w).mono fun e w' ⟨he, hw⟩ => ⟨_, he, _, _, _,  fin w' (hw ▸ RowKit.Below.refl _ _)⟩
  · obtain ⟨a, ha, hs, hz, hc⟩ := q4 0 z
    obtain ⟨bk, o, sp⟩ := a
    simp only at hs
    subst hs ha
    refine (h bk o cap l t w (fun j x hx => ?_) ?_ h1 q2 h2).mono fun e w' ⟨he, hw⟩ => ⟨_, he, _, _, _, fin w' hw⟩
    · have hj := (List.getElem?_eq_some_iff.1 hx)
      obtain ⟨a, ha, hs, hz, v, hc, hv⟩ := q4 j hj.1
      cases ha
      rw [show o + j = o + j * SS.size (.one .str) by simp [SS.size]]
      rw [hc, hv.1, hj.2]
    · exact hp.zs _ hz
end Go.PV

/- A law's arguments, as any memory can hold them: lists and numbers, and their bounds. And a law that answers true. -/
namespace Go.PV
open Go.Deep Go.RowKit
variable {P : Program}
/-! ### bounds -/
mutual
def okV : (s : S) → s.T → Prop
  | .int k, n => k.min ≤ (n : Int) ∧ (n : Int) ≤ k.max
  | .bool, _ => True
  | .str, s => ByteArray.size s ≤ 140737488351232
  | .row cs, l => List.length l * cs.size ≤ 140737488351232 ∧ ∀ x ∈ (l : List cs.T), okC cs x
def okC : (cs : SS) → cs.T → Prop
  | .one s, x => okV s x
  | .cons s cs, x => okV s x.1 ∧ okC cs x.2
end
def SS.cells : SS → List S
  | .one s => [s]
  | .cons s cs => s :: cs.cells
theorem SS.cells_len : ∀ cs : SS, cs.cells.length = cs.size
  | .one _ => rfl
  | .cons _ cs => by simp [SS.cells, SS.size, SS.cells_len cs]
/-! ### which types these shapes are -/
mutual
def opOk (P : Program) : Nat → TypeId → List S → Bool
  | 0, _, _ => false
  | n + 1, t, l => decide (P.cellsOf t = l.length) && match P.underlying t, l with
    | some (.int k), [.int k'] => decide (k = k')
    | some .bool, [.bool] => true
    | some .string, [.str] => true
    | some (.slice e), [.row cs] => decide (P.cellsOf e ≤ P.bytesOf e) && opOk P n e cs.cells
    | some (.struct fs), l => opF P n fs.toList 0 l
    | _, _ => false
def opF (P : Program) : Nat → List Field → Nat → List S → Bool
  | 0, _, _, _ => false
  | n + 1, [], _, l => l.isEmpty
  | n + 1, f :: fs, off, l => decide (f.offset = off) && opOk P n f.type (l.take (P.cellsOf f.type)) && opF P n fs (off + P.cellsOf f.type) (l.drop (P.cellsOf f.type))
end
def Cells0 (w : World) : List CV → List Value → Prop
  | [], [] => True
  | x :: xs, v :: vs => Rep w (fun b => b < w.heap.size) x.s 0 x.x v nil' ∧ Cells0 w xs vs
  | _, _ => False
theorem Cells0.append {w : World} : ∀ {xs ys : List CV} {us vs : List Value}, Cells0 w xs us → Cells0 w ys vs → Cells0 w (xs ++ ys) (us ++ vs)
  | [], _, [], _, _, h => h
  | _ :: _, _, _ :: _, _, h, h' => ⟨h.1, Cells0.append h.2 h'⟩
theorem Cells0.len {w : World} : ∀ {xs : List CV} {us : List Value}, Cells0 w xs us → us.length = xs.length
  | [], [], _ => rfl
  | _ :: _, _ :: _, h => by simp [Cells0.len h.2]
/-- a row's element out of its cells -/
theorem cells_elem {w : World} {b : Nat} : ∀ {cs : SS} {xs : List CV} {us : List Value} {o : Nat}, xs.map (·.s) = cs.cells → Cells0 w xs us → (∀ x ∈ xs, okV x.s x.x) → (∀ (i : Nat) u, us[i]? = some u → w.cell? ⟨b, o + i, none⟩ = some u) →
    ∃ y : cs.T, RepC w (fun b => b < w.heap.size) cs 0 y b o nil' ∧ okC cs y
  | .one s, [x], [u], o, hs, hc, hk, hu => by
    simp only [List.map_cons, List.map_nil, SS.cells, List.cons.injEq, and_true] at hs
    subst hs
    refine ⟨x.x, ?_, hk x (by simp)⟩
    simp only [RepC]
    exact ⟨u, hu 0 u rfl, hc.1⟩
  | .cons s cs, x :: xs, u :: us, o, hs, hc, hk, hu => by
    simp only [List.map_cons, SS.cells, List.cons.injEq] at hs
    obtain ⟨rfl, hs⟩ := hs
    obtain ⟨y, h1, h2⟩ := cells_elem (b := b) (o := o + 1) hs hc.2 (fun z hz => hk z (by simp [hz])) fun i v hv => by
      have := hu (i + 1) v (by simpa using hv)
      rwa [show o + (i + 1) = o + 1 + i by omega] at this
    refine ⟨(x.x, y), ?_, hk x (by simp), h2⟩
    simp only [RepC]
    exact ⟨u, nil', nil', hu 0 u rfl, hc.1, h1, by funext b'; simp, fun _ h => h.elim⟩
  | .one _, [], _, _, hs, _, _, _ => by simp [SS.cells] at hs
  | .one _, _ :: _ :: _, _, _, hs, _, _, _ => by simp [SS.cells] at hs
  | .one _, [_], [], _, _, hc, _, _ => hc.elim
  | .one _, [_], _ :: _ :: _, _, _, hc, _, _ => by cases hc.2
  | .cons _ _, [], _, _, hs, _, _, _ => by simp [SS.cells] at hs
  | .cons _ _, _ :: _, [], _, _, hc, _, _ => hc.elim
theorem list_choose {α : Type} {p : Nat → α → Prop} : ∀ {n : Nat}, (∀ i, i < n → ∃ x, p i x) → ∃ l : List α, l.length = n ∧ ∀ i x, l[i]? = some x → p i x
  | 0, _ => ⟨[], rfl, fun i x hx => by simp at hx⟩
  | n + 1, h => by
    obtain ⟨l, hl, hp⟩ := list_choose (p := p) (n := n) fun i hi => h i (by omega)
    obtain ⟨x, hx⟩ := h n (by omega)
    refine ⟨l ++ [x], by simp [hl], fun i y hy => ?_⟩
    rcases Nat.lt_or_ge i l.length with hi | hi
    · rw [List.getElem?_append_left hi] at hy
      exact hp i y hy
    · rw [List.getElem?_append_right hi] at hy
      have : i - l.length = 0 := by
        rcases Nat.eq_zero_or_pos (i - l.length) with h0 | h0
        · exact h0
        · rw [List.getElem?_eq_none (by simp; omega)] at hy; cases hy
      rw [this] at hy
      simp only [List.getElem?_cons_zero, Option.some.injEq] at hy
      subst hy
      have e : i = n := by omega
      subst e
      exact hx
theorem weightsAll_mem {H : Type} {e : TypeId} {d : DataW H} : ∀ {l : List (DataW H)}, d ∈ l → ∀ n ∈ d.weights P e, n ∈ DataW.weightsAll P e l
  | x :: r, hd, n, hn => by
    simp only [DataW.weightsAll, List.mem_append]
    rcases List.mem_cons.1 hd with rfl | hd
    · exact .inl hn
    · exact .inr (weightsAll_mem hd n hn)
theorem cell_block {w : World} {a : Addr} {u : Value} (h : w.cell? a = some u) : a.spot = none ∧ a.block < w.heap.size := by
  unfold World.cell? at h
  split at h
  · rename_i c _ _ hb
    refine ⟨?_, (Array.getElem?_eq_some_iff.1 hb).1⟩
    cases hs : a.spot with
    | none => rfl
    | some s => rw [hs] at h; cases h
  · cases h
section
variable {H : Type} {enc : TypeId × Value → H} {w : World} {base : Nat} {spare : Nat → Bool} {held : Bool}
mutual
theorem open_ok : ∀ {n : Nat} {t : TypeId} {l : List S} {fuel : Nat} {cs : List Value} {x : DataW H × List MemPlace}, opOk P n t l = true → DataW.trod enc P w base spare held fuel t cs = some x → (∀ k ∈ x.1.weights P t, k ≤ reachBytes) →
    ∃ xs : List CV, xs.map (·.s) = l ∧ Cells0 w xs cs ∧ ∀ y ∈ xs, okV y.s y.x
  | 0, _, _, _, _, _, h, _, _ => by cases h
  | n + 1, t, l, fuel, cs, x, h, hx, hz => by
    unfold opOk at h
    simp only [Bool.and_eq_true, decide_eq_true_eq] at h
    obtain ⟨hsz, h⟩ := h
    cases fuel with
    | zero => simp [DataW.trod] at hx
    | succ fuel =>
      split at h
      · rename_i k k' ht
        have := of_decide_eq_true h
        subst this
        unfold DataW.trod at hx
        rw [ht] at hx
        split at hx
        all_goals first | (exfalso; simp_all; done) | skip
        rename_i k1 k2 n h1
        injection h1 with h1
        injection h1 with h1
        subst h1
        split at hx
        · rename_i hw
          obtain ⟨rfl, hw⟩ := hw
          refine ⟨[⟨.int k2, n⟩], rfl, ⟨⟨rfl, rfl⟩, trivial⟩, fun y hy => ?_⟩
          simp only [List.mem_singleton] at hy
          subst hy
          simpa [okV, Lit.wf] using hw
        · cases hx
      · rename_i ht
        unfold DataW.trod at hx
        rw [ht] at hx
        split at hx
        all_goals first | (exfalso; simp_all; done) | skip
        rename_i b _
        exact ⟨[⟨.bool, b⟩], rfl, ⟨⟨rfl, rfl⟩, trivial⟩, fun y hy => by simp only [List.mem_singleton] at hy; subst hy; trivial⟩
      · rename_i ht
        unfold DataW.trod at hx
        rw [ht] at hx
        split at hx
        all_goals first | (exfalso; simp_all; done) | skip
        rename_i s _
        split at hx
        · obtain rfl := Option.some.inj hx
          refine ⟨[⟨.str, s⟩], rfl, ⟨⟨rfl, rfl⟩, trivial⟩, fun y hy => ?_⟩
          simp only [List.mem_singleton] at hy
          subst hy
          have := hz _ (by simp only [DataW.weights, List.mem_singleton]; rfl)
          simpa [okV, reachBytes] using this
        · cases hx
      · rename_i e cs' ht
        simp only [Bool.and_eq_true, decide_eq_true_eq] at h
        obtain ⟨hb, he⟩ := h
        have hce : P.cellsOf e = cs'.size := by
          cases n with
          | zero => cases he
          | succ n => unfold opOk at he; simp only [Bool.and_eq_true, decide_eq_true_eq] at he; rw [he.1, SS.cells_len]
        rcases open_slice ht hx with ⟨rfl, rfl⟩ | ⟨a, len, cap, m, fl, D, Pl, rfl, hba, hl, hm, hmm, rfl, hel⟩
        · refine ⟨[⟨.row cs', ([] : List cs'.T)⟩], rfl, ⟨?_, trivial⟩, fun y hy => ?_⟩
          · simp only [Rep]
            exact ⟨none, 0, rfl, Nat.le_refl _, trivial, fun i hi => absurd hi (Nat.not_lt_zero _)⟩
          · simp only [List.mem_singleton] at hy
            subst hy
            simp [okV]
        · have hlm : len ≤ m := by rw [hmm]; split <;> omega
          have hpos : ∀ us : List Value, us.length = P.cellsOf e → 0 < us.length := fun us h => by rw [h, hce]; exact SS.size_pos cs'
          have hsp : 0 < len → a.spot = none ∧ a.block < w.heap.size := fun h0 => by
            obtain ⟨us, hus, _⟩ := hel 0 (by omega)
            obtain ⟨_, hcl, hcc⟩ := World.cells?_some hus
            have h1 := hcc 0 (by rw [← hcl]; exact hpos us hcl)
            rw [List.getElem?_eq_getElem (hpos us hcl), Nat.zero_mul] at h1
            have e0 : (a.add 0).add 0 = a := by simp [Addr.add]
            rw [e0] at h1
            exact cell_block h1
          obtain ⟨l, hll, hlp⟩ := list_choose (n := len) (p := fun i (y : cs'.T) => a.spot = none ∧ a.block < w.heap.size ∧ RepC w (fun b => b < w.heap.size) cs' 0 y a.block (a.off + i * cs'.size) nil' ∧ okC cs' y) fun i hi => by
            obtain ⟨us, hus, ht'⟩ := hel i (by omega)
            obtain ⟨xs, h1, h2, h3⟩ := open_ok he ht' (fun k hk => hz k (by
              simp only [DataW.weights, ht, List.mem_cons, List.mem_append]
              exact .inr (.inl (weightsAll_mem (List.mem_map.2 ⟨i, List.mem_range.2 hi, rfl⟩) k hk))))
            obtain ⟨_, hcl, hcc⟩ := World.cells?_some hus
            obtain ⟨sp, sb⟩ := hsp (by omega)
            obtain ⟨y, y1, y2⟩ := cells_elem (b := a.block) (o := a.off + i * cs'.size) h1 h2 h3 fun j u hu => by
              have hj : j < P.cellsOf e := by rw [← hcl]; exact (List.getElem?_eq_some_iff.1 hu).1
              have := hcc j hj
              rw [hu, hce] at this
              cases a with
              | mk b o s =>
                simp only at sp
                subst sp
                rw [add_none, add_none] at this
                exact this
            exact ⟨y, sp, sb, y1, y2⟩
          have hw := hz ((((List.range len).map D).length + ((List.range (m - len)).map fun j => D (len + j)).length) * P.bytesOf e) (by simp [DataW.weights, ht])
          have hw2 : (((List.range len).map D).length + ((List.range (m - len)).map fun j => D (len + j)).length) = m := by simp; omega
          rw [hw2] at hw
          have hlb : len * cs'.size ≤ 140737488351232 := by
            rw [← hce]
            refine Nat.le_trans (Nat.mul_le_mul hlm hb) ?_
            simpa [reachBytes] using hw
          subst hll
          refine ⟨[⟨.row cs', l⟩], rfl, ⟨?_, trivial⟩, fun y hy => ?_⟩
          · simp only [Rep]
            refine ⟨some a, cap, rfl, hl, trivial, fun i hi => ?_⟩
            obtain ⟨h1, h2, h3, _⟩ := hlp i l[i] (by simp [hi])
            exact ⟨a, rfl, h1, h2, h3⟩
          · simp only [List.mem_singleton] at hy
            subst hy
            refine ⟨hlb, fun x hx => ?_⟩
            obtain ⟨i, hi⟩ := List.getElem?_of_mem hx
            exact (hlp i x hi).2.2.2
      · rename_i fs ht
        unfold DataW.trod at hx
        rw [ht] at hx
        simp only at hx
        split at hx
        · rename_i hl
          rw [Option.map_eq_some_iff] at hx
          obtain ⟨ys, hys, rfl⟩ := hx
          obtain ⟨xs, h1, h2, h3⟩ := open_f h hys (fun k hk => hz k (by simp only [DataW.weights, ht]; exact hk)) (by omega)
          rw [List.drop_zero] at h2
          exact ⟨xs, h1, h2, h3⟩
        · cases hx
      · cases h
theorem open_f : ∀ {n : Nat} {fs : List Field} {off : Nat} {l : List S} {fuel : Nat} {cs : List Value} {xs : List (DataW H × List MemPlace)}, opF P n fs off l = true →
    (fs.mapM fun f => DataW.trod enc P w base spare held fuel f.type ((cs.drop f.offset).take (P.cellsOf f.type))) = some xs → (∀ k ∈ DataW.weightsEach P (fs.map (·.type)) (xs.map (·.1)), k ≤ reachBytes) → cs.length = off + l.length →
    ∃ ys : List CV, ys.map (·.s) = l ∧ Cells0 w ys (cs.drop off) ∧ ∀ y ∈ ys, okV y.s y.x
  | 0, _, _, _, _, _, _, h, _, _, _ => by cases h
  | n + 1, [], off, l, fuel, cs, xs, h, hx, hz, hl => by
    unfold opF at h
    obtain rfl : l = [] := by simpa using h
    refine ⟨[], rfl, ?_, fun y hy => by simp at hy⟩
    have : cs.drop off = [] := List.drop_eq_nil_of_le (by simp at hl; omega)
    rw [this]
    trivial
  | n + 1, f :: fs, off, l, fuel, cs, xs, h, hx, hz, hl => by
    unfold opF at h
    simp only [Bool.and_eq_true, decide_eq_true_eq] at h
    obtain ⟨⟨ho, h1⟩, h2⟩ := h
    simp only [List.mapM_cons, Option.bind_eq_bind, Option.pure_def, Option.bind_eq_some_iff, Option.some.injEq] at hx
    obtain ⟨y, hy, ys, hys, rfl⟩ := hx
    obtain ⟨z1, a1, a2, a3⟩ := open_ok h1 hy (fun k hk => hz k (by simp only [List.map_cons, DataW.weightsEach, List.mem_append]; exact .inl hk))
    have hlen : P.cellsOf f.type ≤ l.length := by
      cases n with
      | zero => cases h1
      | succ n => unfold opOk at h1; simp only [Bool.and_eq_true, decide_eq_true_eq, List.length_take] at h1; omega
    obtain ⟨z2, b1, b2, b3⟩ := open_f h2 hys (fun k hk => hz k (by simp only [List.map_cons, DataW.weightsEach, List.mem_append]; exact .inr hk)) (by rw [List.length_drop]; omega)
    rw [ho] at a2
    refine ⟨z1 ++ z2, by rw [List.map_append, a1, b1, List.take_append_drop], ?_, fun x hx => ?_⟩
    · have := a2.append b2
      rwa [← List.drop_drop, List.take_append_drop] at this
    · simp only [List.mem_append] at hx
      exact hx.elim (a3 x) (b3 x)
end
end
/-! ### arguments -/
theorem tup_of : ∀ {l : List S} {xs : List CV}, xs.map (·.s) = l → ∃ a : TupT l, ofTup l a = xs
  | [], [], _ => ⟨(), rfl⟩
  | [], _ :: _, h => by cases h
  | [_], [x], h => by
    simp only [List.map_cons, List.map_nil, List.cons.injEq, and_true] at h
    subst h
    exact ⟨x.x, rfl⟩
  | _ :: t :: l, x :: xs, h => by
    simp only [List.map_cons, List.cons.injEq] at h
    obtain ⟨rfl, h⟩ := h
    obtain ⟨a, ha⟩ := tup_of (l := t :: l) h
    exact ⟨(x.x, a), by simp only [ofTup, ha]⟩
  | [_], [], h | [_], _ :: _ :: _, h | _ :: _ :: _, [], h => by simp at h
section
variable {H : Type} {enc : TypeId × Value → H} {w : World} {base : Nat} {spare : Nat → Bool} {held : Bool}
/-- a parameter that is only looked at -/
def parOk (P : Program) (n : Nat) (t : TypeId) : Par → Bool
  | .val g pcs => opOk P n t (pcs.map (·.s)) && pcs.all (fun pc => Nat.beq pc.d 0) && (match P.underlying t with | some (.struct _) => g | some (.array _ _) => false | _ => !g)
  | .ptr _ => false
def parsOk (P : Program) (n : Nat) : List TypeId → List Par → Bool
  | [], [] => true
  | t :: ts, p :: ps => parOk P n t p && parsOk P n ts ps
  | _, _ => false
theorem open_slot {n : Nat} {t : TypeId} {l : List S} {g : Bool} {base' : Nat} {v : Value} (h : opOk P n t l = true) (hg : (match P.underlying t with | some (.struct _) => g | some (.array _ _) => false | _ => !g) = true)
    (hv : Value.okWide P w .any base' t v) : slotV g v v.cells.toList := by
  unfold Value.okWide at hv
  cases n with
  | zero => cases h
  | succ n =>
    unfold opOk at h
    simp only [Bool.and_eq_true] at h
    obtain ⟨-, h⟩ := h
    split at h
    case h_6 => cases h
    case h_5 fs ht =>
      rw [ht] at hg hv
      obtain rfl : g = true := hg
      obtain ⟨cs, rfl, _⟩ := hv
      simp [slotV, Value.cells]
    all_goals
      rename_i ht
      rw [ht] at hg hv
      simp only [Bool.not_eq_true'] at hg
      subst hg
      unfold Cell.okWide at hv
      rw [ht] at hv
      cases v <;> first | rfl | (exfalso; simp [Cell.ok, ht] at hv)
theorem open_args {n : Nat} {base' : Nat} : ∀ {ts : List TypeId} {ps : List Par} {vs : List Value} {ds : List (DataW H)} {q : List MemPlace}, parsOk P n ts ps = true → DataW.TrodAll enc P w base spare held ts vs ds q → (∀ k ∈ DataW.weightsEach P ts ds, k ≤ reachBytes) →
    (∀ (j : Nat) t v, ts[j]? = some t → vs[j]? = some v → Value.okWide P w .any base' t v) →
    ∃ us xs, Flat w ps vs us ∧ xs.map (·.s) = (ps.flatMap Par.pcs).map (·.s) ∧ Cells0 w xs us ∧ (∀ y ∈ xs, okV y.s y.x) ∧ ∀ e ∈ ents ps, ∃ pc, e = .val pc ∧ pc.d = 0
  | [], [], [], _, _, _, _, _, _ => ⟨[], [], rfl, rfl, trivial, fun y hy => by simp at hy, fun e he => by simp [ents] at he⟩
  | [], _ :: _, _, _, _, h, _, _, _ => by cases h
  | _ :: _, [], _, _, _, h, _, _, _ => by cases h
  | [], [], _ :: _, _, _, _, h, _, _ => by cases h
  | _ :: _, _ :: _, [], _, _, _, h, _, _ => by cases h
  | _ :: _, _ :: _, _ :: _, [], _, _, h, _, _ => by cases h
  | _ :: _, .ptr _ :: _, _ :: _, _ :: _, _, h, _, _, _ => by cases h
  | t :: ts, .val g pcs :: ps, v :: vs, d :: ds, q, h, ht, hz, hv => by
    simp only [parsOk, parOk, Bool.and_eq_true] at h
    obtain ⟨⟨⟨h1, h2⟩, h3⟩, h4⟩ := h
    obtain ⟨p1, q1, ⟨fuel, k1⟩, k2, rfl⟩ := ht
    obtain ⟨x1, a1, a2, a3⟩ := open_ok h1 k1 fun k hk => hz k (by simp only [DataW.weightsEach, List.mem_append]; exact .inl hk)
    obtain ⟨us, x2, b1, b2, b3, b4, b5⟩ := open_args h4 k2 (fun k hk => hz k (by simp only [DataW.weightsEach, List.mem_append]; exact .inr hk)) fun j t v ht hvj => hv (j + 1) t v (by simpa using ht) (by simpa using hvj)
    have hl : v.cells.toList.length = pcs.length := by
      rw [Cells0.len a2]
      have := congrArg List.length a1
      simpa using this
    refine ⟨v.cells.toList ++ us, x1 ++ x2, ⟨_, _, rfl, hl, open_slot h1 h3 (hv 0 t v rfl rfl), b1⟩, ?_, a2.append b3, fun y hy => ?_, fun e he => ?_⟩
    · rw [List.map_append, a1, b2, List.flatMap_cons, List.map_append]; rfl
    · simp only [List.mem_append] at hy; exact hy.elim (a3 y) (b4 y)
    · simp only [ents, List.mem_append, List.mem_map] at he
      rcases he with ⟨pc, hpc, rfl⟩ | he
      · exact ⟨pc, rfl, Nat.eq_of_beq_eq_true (List.all_eq_true.1 h2 pc hpc)⟩
      · exact b5 e he
end
theorem pad_some : ∀ {es : List Ent} {l : List CV}, (∀ e ∈ es, ∃ pc, e = .val pc ∧ pc.d = 0) → l.length = es.length → pad es l = some (l.map some)
  | [], [], _, _ => rfl
  | [], _ :: _, _, h => by cases h
  | _ :: _, [], _, h => by cases h
  | e :: es, c :: l, he, h => by
    obtain ⟨pc, rfl, _⟩ := he e (by simp)
    simp only [pad, pad_some (fun e h => he e (by simp [h])) (Nat.succ.inj h), Option.map_some, List.map_cons]
theorem Cells0.at {w : World} : ∀ {xs : List CV} {us : List Value}, Cells0 w xs us → ∀ (k : Nat) x u, xs[k]? = some x → us[k]? = some u → Rep w (fun b => b < w.heap.size) x.s 0 x.x u nil'
  | _ :: _, _ :: _, h, 0, x, u, hx, hu => by
    simp only [List.getElem?_cons_zero, Option.some.injEq] at hx hu
    subst hx
    subst hu
    exact h.1
  | _ :: _, _ :: _, h, k + 1, x, u, hx, hu => Cells0.at h.2 k x u (by simpa using hx) (by simpa using hu)
  | [], [], _, _, _, _, hx, _ => by simp at hx
/-- A law whose arguments are only looked at, and that answers true. -/
theorem law_calls {g : Sig} {f : Nat} {law : TupT g.ins → Option (TupT g.outs)} (hc : Contract P g f law) (hrs : g.rs = [(.one, [(.bool, 0)])]) {H : Type} {enc : TypeId × Value → H} {w : World} {base base' n : Nat} {spare : Nat → Bool} {held : Bool} {ts : List TypeId} {vs : List Value} {ds : List (DataW H)} {q : List MemPlace}
    (hp : parsOk P n ts g.ps = true) (ht : DataW.TrodAll enc P w base spare held ts vs ds q) (hz : ∀ k ∈ DataW.weightsEach P ts ds, k ≤ reachBytes) (hv : ∀ (j : Nat) t v, ts[j]? = some t → vs[j]? = some v → Value.okWide P w .any base' t v)
    (pure : ∀ args : TupT g.ins, (∀ x ∈ ofTup g.ins args, okV x.s x.x) → ∃ out, law args = some out ∧ (ofTup g.outs out).take 1 = [⟨.bool, true⟩]) :
    Calls P f vs.toArray w fun e w' => e = .returned (.bool true) ∧ Below w.heap.size w w' := by
  obtain ⟨us, xs, h1, h2, h3, h4, h5⟩ := open_args hp ht hz hv
  obtain ⟨args, ha⟩ := tup_of (l := g.ins) h2
  obtain ⟨out, ho, ht⟩ := pure args (by rw [ha]; exact h4)
  obtain ⟨_, k⟩ := hc args out ho
  have hel : (ents g.ps).length = xs.length := by
    have e := congrArg List.length h2
    simp only [List.length_map] at e
    rw [e]
    have key : ∀ ps : List Par, (∀ e ∈ ents ps, ∃ pc, e = .val pc ∧ pc.d = 0) → (ents ps).length = (ps.flatMap Par.pcs).length := by
      intro ps
      induction ps with
      | nil => intro _; rfl
      | cons p ps ih =>
        intro he
        cases p with
        | val a l =>
          have := ih fun e h => he e (by simp [ents, h])
          simp [ents, Par.pcs, this]
        | ptr l =>
          obtain ⟨pc, h, _⟩ := he (.box l.length) (by simp [ents])
          cases h
    exact key g.ps h5
  have hsh : ∀ (j : Nat) pc x, (ents g.ps)[j]? = some (.val pc) → xs[j]? = some x → x.s = pc.s := by
    have key : ∀ (ps : List Par) (ys : List CV), (∀ e ∈ ents ps, ∃ pc, e = .val pc ∧ pc.d = 0) → ys.map (·.s) = (ps.flatMap Par.pcs).map (·.s) → ∀ (j : Nat) pc x, (ents ps)[j]? = some (.val pc) → ys[j]? = some x → x.s = pc.s := by
      intro ps ys he hm j pc x hj hx
      have e : ents ps = (ps.flatMap Par.pcs).map .val := by
        clear hm hj hx
        induction ps with
        | nil => rfl
        | cons p ps ih =>
          cases p with
          | val a l =>
            have := ih fun e h => he e (by simp [ents, h])
            simp [ents, Par.pcs, this]
          | ptr l =>
            obtain ⟨pc, h, _⟩ := he (.box l.length) (by simp [ents])
            cases h
      rw [e, List.getElem?_map] at hj
      have h1 := congrArg (fun l => l[j]?) hm
      simp only [List.getElem?_map, hx] at h1
      cases hp : (ps.flatMap Par.pcs)[j]? with
      | none => rw [hp] at hj; cases hj
      | some pc' =>
        rw [hp] at hj h1
        simp only [Option.map_some, Option.some.injEq, Ent.val.injEq] at hj h1
        rw [h1, hj]
    exact key g.ps xs h5 h2
  refine (k w (fun b => b < w.heap.size) (fun _ => nil') vs us ⟨h1, ⟨xs.map some, by rw [ha]; exact pad_some h5 hel.symm, fun k e x u he hx hu => ?_⟩, fun _ _ _ h => h.elim, fun _ _ h => h.elim, fun _ h => h, fun _ _ _ h => h⟩).mono fun e w' ⟨v, he, O, Z', us', post⟩ => ?_
  · obtain ⟨pc, rfl, hd⟩ := h5 e (List.mem_of_getElem? he)
    rw [List.getElem?_map] at hx
    cases hxk : xs[k]? with
    | none => rw [hxk] at hx; cases hx
    | some y =>
      rw [hxk] at hx
      obtain rfl := Option.some.inj hx
      refine ⟨hsh k pc y he hxk, ?_⟩
      rw [hd]
      exact h3.at k y u hxk hu
  · obtain ⟨rv, hr, rfl⟩ := post.res
    refine ⟨?_, ⟨post.env.1, post.env.2.1, post.env.2.2, post.size, fun b hb => post.same b hb fun i h => h⟩⟩
    have hl : g.res.length = 1 := by simp [Sig.res, hrs]
    rw [hrs, hl, ht] at hr
    cases rv with
    | nil => exact hr.elim
    | cons v rv =>
      obtain ⟨c1, c2, us, e1, e2, _, e3, e4⟩ := hr
      cases c1 with
      | nil => cases us <;> exact e2.elim
      | cons c c1 =>
        simp only [List.cons_append, List.cons.injEq] at e1
        obtain ⟨rfl, e1⟩ := e1
        cases us with
        | nil => exact e2.elim
        | cons u us =>
          simp only at e3
          simp only [List.cons.injEq] at e3
          obtain ⟨rfl, rfl⟩ := e3
          have hb : u = .bool true := by have := e2.2.1; simp only [Rep] at this; exact this.1
          have hc2 : c2 = [] := by
            have := congrArg List.length e1
            simp at this
            exact List.eq_nil_of_length_eq_zero (by omega)
          subst hc2
          cases rv with
          | nil => rw [he, hb]; rfl
          | cons _ _ => exact e4.elim
end Go.PV

/- Where a piece of code stands: what comes behind it. A loop, round by round, as a function of its own. -/
namespace Go.PV
structure Kc (R : Type) where
  K : St → Option R
  E : Nat → St → Option R
  T : St → Option R
section
variable {R : Type} (cx : Cx)
def walk : Code → List Nat → Nat → Kc R → List (LS → Option R) → Code × Nat × Kc R
  | c, [], n, k, _ => (c, n, k)
  | .seq a b, i :: p, n, k, Ls => match i with
    | 0 => walk a p n ⟨(match cx.join (headId b) with
      | none => fun s => exec cx b n s k.K k.E k.T
      | some h => fun s => match normK cx h s with | some x => exec cx b n (unnorm h x) k.K k.E k.T | none => none), k.E, k.T⟩ Ls
    | _ => walk b p n k Ls
  | .cond _ a b, i :: p, n, k, Ls => match i with
    | 0 => walk a p n k Ls
    | _ => walk b p n k Ls
  | .block id a, _ :: p, _, k, Ls => walk a p id ⟨k.K, fun i s => bif Nat.beq i id then k.K s else k.E i s, k.T⟩ Ls
  | .loop a, _ :: p, n, k, Ls => match Ls with
    | L :: Ls => walk a p n ⟨fun s => match normK cx (cx.hint n) s with | some y => L y | none => none, k.E, k.T⟩ Ls
    | [] => (.skip, 0, k)
  | _, _, _, k, _ => (.skip, 0, k)
def stp (body : Code) (path : List Nat) (Ls : List (LS → Option R)) (fin : St → Option R) (x : LS) (L : LS → Option R) : Option R :=
  match walk cx body path 0 ⟨fin, fun _ _ => none, fin⟩ Ls with
  | (.loop a, n, k) => exec cx a n (unnorm (cx.hint n) x) (fun s => match normK cx (cx.hint n) s with | some y => L y | none => none) k.E k.T
  | _ => none
def jn (body : Code) (path : List Nat) (Ls : List (LS → Option R)) (fin : St → Option R) (x : LS) : Option R :=
  match walk cx body path 0 ⟨fin, fun _ _ => none, fin⟩ Ls with
  | (c, n, k) => match cx.join (headId c) with
    | some h => exec cx c n (unnorm h x) k.K k.E k.T
    | none => none
end
/-- rounds -/
def iter {A R : Type} (s : (A → Option R) → A → Option R) : Nat → A → Option R
  | 0, _ => none
  | k + 1, a => s (iter s k) a
theorem loop_iter {A R : Type} (ls : A → LS) (st : LS → (LS → Option R) → Option R) (s : (A → Option R) → A → Option R)
    (h : ∀ L a, st (ls a) L = s (fun a => L (ls a)) a) : ∀ k a, loopK st k (ls a) = iter s k a
  | 0, _ => rfl
  | k + 1, a => by
    have ih : (fun a => loopK st k (ls a)) = iter s k := funext (loop_iter ls st s h k)
    simp only [loopK, iter]
    rw [h, ih]
end Go.PV

/- Plain words: how a function's own lists and numbers are told, step by step; loops by index. No program here. -/
namespace Go.PV.T
def rnds : Nat := 18446744073709551616
theorem rnds_gt {n : Nat} (h : n ≤ 4611686018427387904) : n < rnds := Nat.lt_of_le_of_lt h (by decide)
attribute [irreducible] rnds
variable {α β : Type}
/-- an answer of which P holds -/
def Tells (x : Option α) (P : α → Prop) : Prop := ∃ r, x = some r ∧ P r
theorem Tells.mono {x : Option α} {P Q : α → Prop} (h : Tells x P) (k : ∀ r, P r → Q r) : Tells x Q := ⟨h.choose, h.choose_spec.1, k _ h.choose_spec.2⟩
theorem tl {a : α} {P : α → Prop} (h : P a) : Tells (some a) P := ⟨a, rfl, h⟩
theorem te {x : Option α} {a : α} {P : α → Prop} (e : x = some a) (h : P a) : Tells x P := ⟨a, e, h⟩
theorem tb {x : Option α} {f : α → Option β} {P : α → Prop} {Q : β → Prop} (h : Tells x P) (k : ∀ a, P a → Tells (f a) Q) : Tells (Option.bind x f) Q := by
  obtain ⟨a, rfl, ha⟩ := h
  exact k a ha
/-- a call whose answer is known -/
theorem tc {x : Option α} {a : α} {f : α → Option β} {Q : β → Prop} (e : x = some a) (k : Tells (f a) Q) : Tells (Option.bind x f) Q := by rw [e]; exact k
theorem tif {c : Prop} [Decidable c] {a b : Option α} {Q : α → Prop} (h1 : c → Tells a Q) (h2 : ¬ c → Tells b Q) : Tells (bif decide c then a else b) Q := by
  by_cases h : c
  · rw [decide_eq_true h]; exact h1 h
  · rw [decide_eq_false h]; exact h2 h
theorem tp {c : Prop} [Decidable c] {a b : Option α} {Q : α → Prop} (h : c) (k : Tells a Q) : Tells (bif decide c then a else b) Q := tif (fun _ => k) fun n => absurd h n
theorem tn {c : Prop} [Decidable c] {a b : Option α} {Q : α → Prop} (h : ¬ c) (k : Tells b Q) : Tells (bif decide c then a else b) Q := tif (fun n => absurd n h) fun _ => k
theorem tbif {c : Bool} {a b : Option α} {Q : α → Prop} (h1 : c = true → Tells a Q) (h2 : c = false → Tells b Q) : Tells (bif c then a else b) Q := by
  cases c
  · exact h2 rfl
  · exact h1 rfl
theorem tt {c : Bool} {a b : Option α} {Q : α → Prop} (h : c = true) (k : Tells a Q) : Tells (bif c then a else b) Q := by subst h; exact k
theorem tf {c : Bool} {a b : Option α} {Q : α → Prop} (h : c = false) (k : Tells b Q) : Tells (bif c then a else b) Q := by subst h; exact k
/-- an index within its row -/
theorem inr {i n : Nat} (h : i < n) : (decide ((0 : Int) ≤ (i : Int)) && decide ((i : Int) < (n : Int))) = true := by
  rw [decide_eq_true (by omega), decide_eq_true (by omega)]; rfl
theorem ti {i n : Nat} {a b : Option α} {Q : α → Prop} (h : i < n) (k : Tells a Q) : Tells (bif decide ((0 : Int) ≤ (i : Int)) && decide ((i : Int) < (n : Int)) then a else b) Q := tt (inr h) k
theorem wrap_id {x : Int} (h0 : -9223372036854775808 ≤ x) (h1 : x ≤ 9223372036854775807) : IntKind.wrap IntKind.i64 x = x := by
  rw [IntKind.wrap_i64]; omega
theorem wrap_succ {i : Nat} (h : i < 9223372036854775807) : IntKind.wrap IntKind.i64 ((i : Int) + 1) = ((i + 1 : Nat) : Int) := by
  rw [wrap_id (by omega) (by omega)]; omega
theorem getD_at {l : List α} {i : Nat} {x z : α} (h : l[i]? = some x) : List.getD l (Int.toNat (i : Int)) z = x := by
  rw [Int.toNat_natCast, List.getD_eq_getElem?_getD, h]; rfl
theorem getD_in {l : List α} {i : Nat} {z : α} (h : i < l.length) : List.getD l (Int.toNat (i : Int)) z = l[i] := getD_at (by simp [h])
/-- A loop by index: what it tells of each round's state. -/
theorem loopQ {A R σ : Type} (s : (A → Option R) → A → Option R) (n : Nat) (mk : σ → Int → A) (I : σ → Nat → Prop) (Q : σ → Nat → R → Prop)
    (base : ∀ L st, I st n → Tells (s L (mk st (n : Int))) (Q st n))
    (step : ∀ L st i, I st i → i < n → (∀ st', I st' (i + 1) → Tells (L (mk st' ((i + 1 : Nat) : Int))) (Q st' (i + 1))) → Tells (s L (mk st (i : Int))) (Q st i)) :
    ∀ (k i : Nat) (st : σ), i ≤ n → n - i < k → I st i → Tells (iter s k (mk st (i : Int))) (Q st i)
  | 0, _, _, _, h, _ => absurd h (Nat.not_lt_zero _)
  | k + 1, i, st, hi, hk, h => by
    simp only [iter]
    by_cases hn : i = n
    · subst hn; exact base _ st h
    · exact step _ st i h (by omega) fun st' h' => loopQ s n mk I Q base step k (i + 1) st' (by omega) (by omega) h'
/-- the same from the first round on, with rounds enough -/
theorem loop0 {A R σ : Type} (s : (A → Option R) → A → Option R) (n : Nat) (mk : σ → Int → A) (I : σ → Nat → Prop) (Q : σ → Nat → R → Prop) (st : σ) (hn : n ≤ 4611686018427387904) (h0 : I st 0)
    (base : ∀ L st, I st n → Tells (s L (mk st (n : Int))) (Q st n))
    (step : ∀ L st i, I st i → i < n → (∀ st', I st' (i + 1) → Tells (L (mk st' ((i + 1 : Nat) : Int))) (Q st' (i + 1))) → Tells (s L (mk st (i : Int))) (Q st i)) :
    Tells (iter s rnds (mk st (0 : Int))) (Q st 0) := loopQ s n mk I Q base step rnds 0 st (Nat.zero_le _) (rnds_gt (by omega)) h0
theorem Tells.eq {x : Option α} {a : α} (h : Tells x (· = a)) : x = some a := by obtain ⟨r, e, rfl⟩ := h; exact e
theorem loopE {A R : Type} (s : (A → Option R) → A → Option R) (n : Nat) (mk : Int → A) (Q : Nat → R → Prop) (hn : n ≤ 4611686018427387904)
    (base : ∀ L, Tells (s L (mk (n : Int))) (Q n))
    (step : ∀ L i, i < n → Tells (L (mk ((i + 1 : Nat) : Int))) (Q (i + 1)) → Tells (s L (mk (i : Int))) (Q i)) :
    Tells (iter s rnds (mk (0 : Int))) (Q 0) := loop0 (σ := Unit) s n (fun _ => mk) (fun _ _ => True) (fun _ => Q) () hn trivial (fun L _ _ => base L) fun L _ i _ hi ih => step L i hi (ih () trivial)
theorem drop_at {l : List α} {i : Nat} (h : i < l.length) : l.drop i = l[i] :: l.drop (i + 1) := List.drop_eq_getElem_cons h
theorem dep {m d : Nat} (h : m + 1 ≤ d) : ∃ d', d = d' + 1 ∧ m ≤ d' := ⟨d - 1, by omega, by omega⟩
/-! ### rows that are marked, number by number, and read again -/
def wSum (w : β → Nat) (l : List β) : Nat := (l.map w).sum
theorem wSum_cons {w : β → Nat} {x : β} {l : List β} : wSum w (x :: l) = w x + wSum w l := rfl
theorem wSum_append {w : β → Nat} {a b : List β} : wSum w (a ++ b) = wSum w a + wSum w b := by simp [wSum]
theorem wSum_take {w : β → Nat} {l : List β} {i : Nat} (h : i < l.length) : wSum w (l.take (i + 1)) = wSum w (l.take i) + w l[i] := by
  rw [List.take_add_one, wSum_append]; simp [h, wSum]
theorem wSum_take_le {w : β → Nat} {l : List β} (i : Nat) : wSum w (l.take i) ≤ wSum w l := by
  have h := wSum_append (w := w) (a := l.take i) (b := l.drop i)
  rw [List.take_append_drop] at h
  omega
def MkL (w : β → Nat) (M : Int → β → Prop) : Int → List β → Prop
  | _, [] => True
  | n, x :: r => M n x ∧ MkL w M (n + w x) r
theorem MkL.snoc {w : β → Nat} {M : Int → β → Prop} : ∀ {l : List β} {n : Int} {x : β}, MkL w M n l → M (n + wSum w l) x → MkL w M n (l ++ [x])
  | [], n, x, _, h => ⟨by simpa [wSum] using h, trivial⟩
  | y :: l, n, x, h, hx => ⟨h.1, MkL.snoc h.2 (by rw [wSum_cons] at hx; rwa [Int.add_assoc, ← Int.natCast_add])⟩
theorem MkL.at {w : β → Nat} {M : Int → β → Prop} : ∀ {l : List β} {n : Int}, MkL w M n l → ∀ (i : Nat) (h : i < l.length), M (n + wSum w (l.take i)) l[i]
  | y :: l, n, h, 0, hi => by simpa [wSum] using h.1
  | y :: l, n, h, i + 1, hi => by
    have := MkL.at h.2 i (by simpa using hi)
    rw [List.take_succ_cons, wSum_cons]
    simpa [Int.add_assoc] using this
theorem loopMark {w : β → Nat} {M : Int → β → Prop} (s : ((Int × Int × List β) → Option (Int × List β)) → (Int × Int × List β) → Option (Int × List β)) {n : Int} {l : List β} (h0 : 0 ≤ n) (hn : n + wSum w l ≤ 4611686018427387904) (hl : l.length ≤ 140737488351232)
    (base : ∀ L n st, st.length = l.length → Tells (s L (n, (l.length : Int), st)) (· = (n, st)))
    (step : ∀ L (n : Int) st (i : Nat) Q (hi : i < st.length), st.length = l.length → (∃ x ∈ l, w x = w st[i]) → 0 ≤ n → n + w st[i] ≤ 4611686018427387904 → (∀ y, w y = w st[i] → M n y → Tells (L (n + (w st[i] : Nat), ((i + 1 : Nat) : Int), st.set i y)) Q) → Tells (s L (n, (i : Int), st)) Q) :
    Tells (iter s rnds (n, 0, l)) (fun r => r.1 = n + wSum w l ∧ MkL w M n r.2 ∧ r.2.map w = l.map w) := by
  refine loop0 (σ := List β) s l.length (fun st i => (n + wSum w (st.take (Int.toNat i)), i, st)) (fun st i => st.map w = l.map w ∧ MkL w M n (st.take i)) (fun _ _ r => r.1 = n + wSum w l ∧ MkL w M n r.2 ∧ r.2.map w = l.map w) l (by omega) ⟨rfl, trivial⟩ ?_ ?_ |> fun h => by simpa [wSum] using h
  · rintro L st ⟨h1, h2⟩
    have hlen : st.length = l.length := by have := congrArg List.length h1; simpa using this
    refine (base L _ st hlen).mono fun r hr => ?_
    subst hr
    have h2' : MkL w M n st := by rw [← hlen, List.take_length] at h2; exact h2
    exact ⟨by simp only [Int.toNat_natCast, ← hlen, List.take_length, wSum, h1], h2', h1⟩
  · rintro L st i ⟨h1, h2⟩ hi ih
    have hlen : st.length = l.length := by have := congrArg List.length h1; simpa using this
    have hs : wSum w st = wSum w l := by simp only [wSum, h1]
    have hi' : i < st.length := by omega
    have hb := wSum_take_le (w := w) (l := st) (i + 1)
    rw [wSum_take hi'] at hb
    simp only [Int.toNat_natCast]
    refine step L _ st i _ hi' hlen ⟨l[i], List.getElem_mem hi, ?_⟩ (by omega) (by omega) fun y hy hM => ?_
    · have := congrArg (fun l => l[i]?) h1
      simp only [List.getElem?_map, List.getElem?_eq_getElem hi', List.getElem?_eq_getElem hi, Option.map_some, Option.some.injEq] at this
      exact this.symm
    have e : (st.set i y).take i = st.take i := List.take_set_of_le (Nat.le_refl i)
    have ei : (st.set i y).take (i + 1) = st.take i ++ [y] := by
      rw [List.take_add_one, e, List.getElem?_set_self hi']; rfl
    have := ih (st.set i y) ⟨by
      rw [← h1]
      apply List.ext_getElem? ; intro j
      simp only [List.getElem?_map, List.getElem?_set]
      by_cases hj : i = j
      · subst hj; simp [hi', hy]
      · simp [hj], by rw [ei]; exact MkL.snoc h2 hM⟩
    simp only [Int.toNat_natCast] at this
    rw [ei, wSum_append] at this
    have e3 : n + ((wSum w (st.take i) + wSum w [y] : Nat) : Int) = n + (wSum w (st.take i) : Nat) + (w st[i] : Nat) := by
      have : wSum w [y] = w st[i] := by simp [wSum, hy]
      rw [this]; omega
    rw [e3] at this
    exact this
theorem loopHeld {w : β → Nat} {M : Int → β → Prop} (s : ((List β × Int × Int) → Option Int) → (List β × Int × Int) → Option Int) {n : Int} {l : List β} (h0 : 0 ≤ n) (hn : n + wSum w l ≤ 4611686018427387904) (hl : l.length ≤ 140737488351232) (hm : MkL w M n l)
    (base : ∀ L n, Tells (s L (l, n, (l.length : Int))) (· = n))
    (step : ∀ L (n : Int) (i : Nat) Q (hi : i < l.length), 0 ≤ n → n + w l[i] ≤ 4611686018427387904 → M n l[i] → Tells (L (l, n + (w l[i] : Nat), ((i + 1 : Nat) : Int))) Q → Tells (s L (l, n, (i : Int))) Q) :
    Tells (iter s rnds (l, n, 0)) (· = n + wSum w l) := by
  have := loopE s l.length (fun i => (l, n + wSum w (l.take (Int.toNat i)), i)) (fun _ r => r = n + wSum w l) (by omega) (fun L => by
    simp only [Int.toNat_natCast, List.take_length]
    exact base L _) fun L i hi ih => by
    simp only [Int.toNat_natCast] at ih ⊢
    have hb := wSum_take_le (w := w) (l := l) (i + 1)
    rw [wSum_take hi] at hb
    refine step L _ i _ hi (by omega) (by omega) (hm.at i hi) ?_
    rw [wSum_take hi] at ih
    rw [Int.add_assoc, ← Int.natCast_add]
    exact ih
  simpa [wSum] using this
theorem mem_wSum {w : β → Nat} {l : List β} {x : β} (h : x ∈ l) : w x ≤ wSum w l := by
  induction l with
  | nil => cases h
  | cons a r ih =>
    rw [wSum_cons]
    rcases List.mem_cons.1 h with rfl | h
    · omega
    · have := ih h; omega
/-- what is left of a size behind a row's elements -/
theorem loopSz {w : β → Nat} (s : ((List β × Int × Int) → Option Int) → (List β × Int × Int) → Option Int) {left : Int} {l : List β} (h0 : 0 ≤ left) (hl : l.length ≤ 140737488351232)
    (base : ∀ L st, Tells (s L (l, st, (l.length : Int))) (· = st))
    (step : ∀ L (st : Int) (i : Nat) Q (hi : i < l.length), 0 ≤ st → st ≤ left → Q (-1) → (∀ st', 0 ≤ st' → (w l[i] : Int) ≤ st - st' → Tells (L (l, st', ((i + 1 : Nat) : Int))) Q) → Tells (s L (l, st, (i : Int))) Q) :
    Tells (iter s rnds (l, left, 0)) (fun r => r ≤ left ∧ (0 ≤ r → (wSum w l : Int) ≤ left - r)) := by
  refine loop0 (σ := Int) s l.length (fun st i => (l, st, i)) (fun st i => 0 ≤ st ∧ (wSum w (l.take i) : Int) ≤ left - st) (fun _ _ r => r ≤ left ∧ (0 ≤ r → (wSum w l : Int) ≤ left - r)) left (by omega) ⟨h0, by simp [wSum]⟩ ?_ ?_
  · rintro L st ⟨h1, h2⟩
    refine (base L st).mono fun r hr => ?_
    subst hr
    rw [List.take_length] at h2
    exact ⟨by omega, fun _ => h2⟩
  · rintro L st i ⟨h1, h2⟩ hi ih
    refine step L st i _ hi h1 (by omega) ⟨by omega, fun h => by omega⟩ fun st' h3 h4 => ?_
    exact ih st' ⟨h3, by rw [wSum_take hi]; omega⟩
/-- a loop that runs down -/
theorem loopDown {A R : Type} (s : (A → Option R) → A → Option R) (n : Nat) (mk : Int → A) (Q : Nat → R → Prop) (hn : n ≤ 4611686018427387904)
    (base : ∀ L, Tells (s L (mk (-1))) (Q 0))
    (step : ∀ L i, i < n → Tells (L (mk ((i : Int) - 1))) (Q i) → Tells (s L (mk (i : Int))) (Q (i + 1))) :
    Tells (iter s rnds (mk ((n : Int) - 1))) (Q n) := by
  have key : ∀ k i : Nat, i ≤ n → i < k → Tells (iter s k (mk ((i : Int) - 1))) (Q i) := by
    intro k
    induction k with
    | zero => intro i _ h; cases h
    | succ k ih =>
      intro i hi hk
      simp only [iter]
      cases i with
      | zero => exact base _
      | succ i =>
        have e : ((i + 1 : Nat) : Int) - 1 = (i : Int) := by omega
        rw [e]
        exact step _ i (by omega) (ih i (by omega) (by omega))
  exact key rnds n (Nat.le_refl _) (rnds_gt (by omega))
/-- a row that is copied, element by element, into one of the same length -/
theorem loopFill {α β : Type} (s : ((List α × Int × List β) → Option (List β)) → (List α × Int × List β) → Option (List β)) (l : List α) (f : α → β) (z : List β) (hz : z.length = l.length) (hl : l.length ≤ 140737488355328)
    (base : ∀ L st, st.length = l.length → Tells (s L (l, (l.length : Int), st)) (· = st))
    (step : ∀ L st (i : Nat) Q (hi : i < l.length), st.length = l.length → Tells (L (l, ((i + 1 : Nat) : Int), st.set i (f l[i]))) Q → Tells (s L (l, (i : Int), st)) Q) :
    Tells (iter s rnds (l, 0, z)) (· = l.map f) := by
  refine loop0 (σ := List β) s l.length (fun st i => (l, i, st)) (fun st i => st.length = l.length ∧ st.take i = (l.map f).take i) (fun _ _ r => r = l.map f) z (by omega) ⟨hz, by simp⟩ ?_ ?_
  · rintro L st ⟨h1, h2⟩
    refine (base L st h1).mono fun r hr => ?_
    subst hr
    rw [← h1, List.take_length, h1, ← List.length_map (f := f), List.take_length] at h2
    exact h2
  · rintro L st i ⟨h1, h2⟩ hi ih
    refine step L st i _ hi h1 (ih _ ⟨by simp [h1], ?_⟩)
    rw [List.take_add_one, List.take_add_one, List.take_set_of_le (Nat.le_refl i), h2, List.getElem?_set_self (by omega)]
    simp [hi]
/-- a row that grows by one element a round -/
theorem loopApp {A R α β : Type} (s : (A → Option R) → A → Option R) (l : List α) (f : α → β) (mk : List β → Int → A) (P : R → Prop) (hl : l.length ≤ 140737488355328)
    (base : ∀ L, Tells (s L (mk (l.map f) (l.length : Int))) P)
    (step : ∀ L st (i : Nat) Q (hi : i < l.length), st.length = i → Tells (L (mk (st ++ [f l[i]]) ((i + 1 : Nat) : Int))) Q → Tells (s L (mk st (i : Int))) Q) :
    Tells (iter s rnds (mk [] 0)) P := by
  refine loop0 (σ := List β) s l.length mk (fun st i => st = (l.take i).map f) (fun _ _ => P) [] (by omega) rfl ?_ ?_
  · rintro L st rfl
    rw [List.take_length]
    exact base L
  · rintro L st i rfl hi ih
    refine step L _ i _ hi (by simp; omega) (ih _ ?_)
    rw [List.take_add_one, List.map_append, List.getElem?_eq_getElem hi]
    rfl
theorem wrapn {x : Int} (h0 : 0 ≤ x) (h1 : x ≤ 4611686018427387905) : IntKind.wrap IntKind.i64 x = x := wrap_id (by omega) (by omega)
end Go.PV.T

/- Plain words on bytes: numbers in groups of seven bits, sums, texts and values, written and read. No program here. -/
set_option linter.unusedVariables false
namespace Go.PV.T
open Go
def inB (a lo hi : Int) : Bool := decide (lo ≤ a) && decide (a ≤ hi)
theorem inB_iff {a lo hi : Int} : inB a lo hi = true ↔ lo ≤ a ∧ a ≤ hi := by simp [inB]
abbrev bytesOf := strNums
abbrev strOfNums := numsStr
theorem bytesOf_length (s : ByteArray) : (bytesOf s).length = s.size := by simp [strNums]
theorem strOfNums_data (l : List Int) : (strOfNums l).data.toList = l.map fun n => UInt8.ofNat n.toNat := by simp [numsStr]
theorem strOfNums_size (l : List Int) : (strOfNums l).size = l.length := by simp [numsStr, ByteArray.size]
theorem toList_bytes (s : ByteArray) : bytesOf s = s.toList.map fun b => (b.toNat : Int) := by rw [ByteArray.toList_eq]; rfl
def shl (k : IntKind) (x y : Int) : Int := k.wrap (x * 2 ^ (min y.toNat k.bits))
def shr (k : IntKind) (x y : Int) : Int := Int.fdiv x (2 ^ (min y.toNat k.bits))
theorem clampU_mx (n : Int) : (bif decide ((bif decide (1000000 < n) then 1000000 else n) > 0) then (bif decide (1000000 < n) then 1000000 else n) else 0) = (if n < 0 then 0 else if n > 1000000 then 1000000 else n) := by
  by_cases h : (1000000 : Int) < n <;> by_cases h0 : (0 : Int) < n <;> by_cases h1 : n < 0 <;> simp [h, h0, h1] <;> omega
/-- Is a text's rest, from its i-th byte on, that of a name? (n: the text's length) -/
def nameM (n : Int) : Nat → List Int → Bool
  | _, [] => inB n 1 8
  | i, c :: r => if inB c 97 122 = true then nameM n (i + 1) r else if i = 0 then false else if inB c 48 57 = true then nameM n (i + 1) r else false
theorem bytesOf_inj {s t : ByteArray} : bytesOf s = bytesOf t ↔ s.toList = t.toList := by
  rw [toList_bytes, toList_bytes]
  constructor
  · intro h
    exact List.map_inj_right (fun a b hab => UInt8.toNat_inj.1 (Int.ofNat_inj.1 hab)) |>.1 h
  · intro h; rw [h]
theorem toList_one (s : ByteArray) (b : UInt8) : s.toList = [b] ↔ bytesOf s = [(b.toNat : Int)] := by
  rw [toList_bytes]
  constructor
  · intro h; rw [h]; rfl
  · intro h
    have : s.toList.map (fun b => (b.toNat : Int)) = [b].map (fun b => (b.toNat : Int)) := h
    exact (List.map_inj_right (fun a b hab => UInt8.toNat_inj.1 (Int.ofNat_inj.1 hab))).1 this
def markM (l : List Int) : Bool := if l = [123] then true else if l = [125] then true else if l = [44] then true else decide (l = [59])
theorem markM_len (l : List Int) (h : l.length ≠ 1) : markM l = false := by
  unfold markM
  rw [if_neg, if_neg, if_neg, decide_eq_false]
  all_goals (rintro rfl; exact h rfl)
def tokM (k : Int) (s : List Int) : Bool := if k = 1 then nameM s.length 0 s else if k = 2 then markM s else false
/-- What is left of a size, or -1. -/
def szM (left : Int) (n : Nat) : Int := if left - n < 0 then -1 else left - n
/-- What is left behind several sizes, or -1. -/
def szL : Int → List Nat → Int
  | left, [] => left
  | left, n :: r => if left - n < 0 then -1 else szL (left - n) r
theorem szL_le : ∀ (l : List Nat) (left : Int), 0 ≤ left → -1 ≤ szL left l ∧ szL left l ≤ left
  | [], left, h => by simp only [szL]; omega
  | n :: r, left, h => by
    simp only [szL]
    by_cases c : left - n < 0
    · rw [if_pos c]; omega
    · rw [if_neg c]
      have := szL_le r (left - n) (by omega)
      omega
def partOkM (col ty : Int) : Bool := if inB col 0 9 = true then inB ty 1 4 else false
theorem empty_toList (s : ByteArray) : (s.toList == ([] : List UInt8)) = decide (bytesOf s = []) := by
  rw [toList_bytes, Bool.eq_iff_iff]; simp
/-- Is a value right: its kind, its number, its text's bytes. -/
def valOkM (k n : Int) (s : List Int) : Bool :=
  if k = 0 then (if n = 0 then decide (s = []) else false)
  else if k = 1 then (if inB n (-2147483648) 2147483647 = true then decide (s = []) else false)
  else if k = 2 then (if inB n (-1000000000000000) 1000000000000000 = true then decide (s = []) else false)
  else if k = 3 then (if n = 0 then decide ((s.length : Int) ≤ 30) else false)
  else if k = 4 then (if inB n 0 1 = true then decide (s = []) else false)
  else false
/-- Does a value fit a part of type ty (null: may it be nothing)? -/
def fitsM (ty : Int) (null : Bool) (k n : Int) (s : List Int) : Bool :=
  if valOkM k n s = true then (if k = ty then (if k = 0 then null else true) else (if k = 0 then null else false)) else false
/-- The same in one: what is left behind so much, or -1. -/
def szC (left : Int) (n : Nat) : Int := if (n : Int) ≤ left then left - n else -1
theorem szC_bd {left : Int} {n : Nat} (h : 0 ≤ left) : -1 ≤ szC left n ∧ szC left n ≤ left := by unfold szC; split <;> omega
theorem szC_of {left : Int} {n : Nat} (h : ¬ szC left n < 0) : (n : Int) ≤ left ∧ szC left n = left - n := by
  unfold szC at *
  split at h
  · rename_i c; exact ⟨c, by rw [if_pos c]⟩
  · omega
theorem szL_sum : ∀ (l : List Nat) (left : Int), 0 ≤ left → szL left l = szC left l.sum
  | [], left, h => by unfold szC; rw [if_pos (by simpa using h)]; simp [szL]
  | n :: r, left, h => by
    simp only [szL, List.sum_cons]
    by_cases c : left - n < 0
    · rw [if_pos c]; unfold szC; rw [if_neg (by omega)]
    · rw [if_neg c, szL_sum r _ (by omega)]
      unfold szC
      by_cases c2 : (r.sum : Int) ≤ left - n
      · rw [if_pos c2, if_pos (by omega)]; omega
      · rw [if_neg c2, if_neg (by omega)]
theorem wraps_i64 (n : Int) (h₀ : 0 ≤ n) (h₁ : n < 2 ^ 62) : IntKind.i64.wrap n = n := by rw [IntKind.wrap_i64]; omega
theorem wraps_u32 (n : Int) (h₀ : 0 ≤ n) (h₁ : n < 2 ^ 32) : IntKind.u32.wrap n = n := by rw [IntKind.wrap_u32]; omega
theorem and127 (x : Int) (h₀ : 0 ≤ x) (h₁ : x < 4611686018427387904) : Go.bits .and .i64 x 127 = x % 128 := bits_mask .i64 62 (by decide) wraps_i64 7 (by decide) x h₀ h₁
theorem or128 (x : Int) (h₀ : 0 ≤ x) (h₁ : x < 128) : Go.bits .or .i64 x 128 = x + 128 := by
  obtain ⟨a, rfl⟩ := Int.eq_ofNat_of_zero_le h₀
  have ha : a < 128 := by omega
  have h := (bits_nat .i64 62 (by decide) wraps_i64 a 128 (by omega) (by omega)).2
  have e : (a ||| 128 : Nat) = a + 128 := by
    have h2 := Nat.two_pow_add_eq_or_of_lt (i := 7) (b := a) ha 1
    rw [Nat.mul_one] at h2
    rw [Nat.or_comm, ← show (2 ^ 7 ||| a) = (128 ||| a) from rfl, ← h2]
    omega
  rw [show ((128 : Int)) = ((128 : Nat) : Int) from rfl, h, e]; rfl
/-- A number within 0 .. 1000000. -/
def clampU (n : Int) : Int := if n < 0 then 0 else if n > 1000000 then 1000000 else n
theorem clampU_bd (n : Int) : 0 ≤ clampU n ∧ clampU n ≤ 1000000 := by
  by_cases h : n < 0 <;> by_cases h2 : n > 1000000 <;> simp [clampU, h, h2] <;> omega
/-- Its groups of seven bits, the lowest first. -/
def groups (n : Int) : List Int := if n > 127 then (if n / 128 > 127 then [n % 128 + 128, n / 128 % 128 + 128, n / 16384] else [n % 128 + 128, n / 128]) else [n]
def uM (n : Int) : List Int := groups (clampU n)
theorem groups_len (n : Int) : 1 ≤ (groups n).length ∧ (groups n).length ≤ 3 := by unfold groups; by_cases h : n > 127 <;> by_cases h2 : n / 128 > 127 <;> simp [h, h2]
theorem uM_len (n : Int) : 1 ≤ (uM n).length ∧ (uM n).length ≤ 3 := groups_len _
def crcStep (x : Nat) : Nat := if x % 2 = 1 then (x / 2) ^^^ 2197175160 else x / 2
def crcN : Nat → Nat → Nat
  | 0, x => x
  | n + 1, x => crcN n (crcStep x)
def crcByte (x : Nat) (b : Int) : Nat := crcN 8 (x ^^^ b.toNat)
def crcFold (x : Nat) (l : List Int) : Nat := l.foldl crcByte x
def crcM (l : List Int) : Int := ((crcFold 4294967295 l ^^^ 4294967295 : Nat) : Int)
theorem crcStep_lt {x : Nat} (h : x < 2 ^ 32) : crcStep x < 2 ^ 32 := by
  unfold crcStep
  split
  · exact Nat.xor_lt_two_pow (by omega) (by decide)
  · omega
theorem crcN_lt : ∀ (n x : Nat), x < 2 ^ 32 → crcN n x < 2 ^ 32
  | 0, _, h => h
  | n + 1, _, h => crcN_lt n _ (crcStep_lt h)
theorem crcByte_lt {x : Nat} (h : x < 2 ^ 32) {b : Int} (hb : b ≤ 255) : crcByte x b < 2 ^ 32 := crcN_lt 8 _ (Nat.xor_lt_two_pow h (by omega))
theorem crcFold_lt : ∀ (l : List Int) (x : Nat), x < 2 ^ 32 → (∀ b ∈ l, b ≤ 255) → crcFold x l < 2 ^ 32
  | [], _, h, _ => h
  | b :: r, _, h, hl => crcFold_lt r _ (crcByte_lt h (hl b List.mem_cons_self)) (fun c hc => hl c (List.mem_cons_of_mem _ hc))
theorem crcM_bd (l : List Int) (hl : ∀ b ∈ l, b ≤ 255) : 0 ≤ crcM l ∧ crcM l < 4294967296 := by
  have h := crcFold_lt l 4294967295 (by decide) hl
  have h2 : (crcFold 4294967295 l ^^^ 4294967295 : Nat) < 2 ^ 32 := Nat.xor_lt_two_pow h (by decide)
  unfold crcM
  omega
theorem xor_nat (k : IntKind) (j : Nat) (hj : j ≤ k.bits) (hk : ∀ n : Int, 0 ≤ n → n < 2 ^ j → k.wrap n = n) (a b : Nat) (ha : a < 2 ^ j) (hb : b < 2 ^ j) : Go.bits .xor k a b = ((a ^^^ b : Nat) : Int) := by
  have hp : 2 ^ j ≤ 2 ^ k.bits := Nat.pow_le_pow_right (by decide) hj
  have ha' : a % 2 ^ k.bits = a := Nat.mod_eq_of_lt (Nat.lt_of_lt_of_le ha hp)
  have hb' : b % 2 ^ k.bits = b := Nat.mod_eq_of_lt (Nat.lt_of_lt_of_le hb hp)
  simp only [Go.bits, BitVec.ofInt_natCast, BitVec.toNat_xor, BitVec.toNat_ofNat, ha', hb']
  exact hk _ (Int.natCast_nonneg _) (by have := Nat.xor_lt_two_pow ha hb; exact_mod_cast this)
theorem xor_i64 (a b : Nat) (ha : a < 2 ^ 32) (hb : b < 2 ^ 32) : Go.bits .xor .i64 (a : Int) (b : Int) = ((a ^^^ b : Nat) : Int) :=
  xor_nat .i64 62 (by decide) wraps_i64 a b (by omega) (by omega)
theorem xor_u32 (a b : Nat) (ha : a < 2 ^ 32) (hb : b < 2 ^ 32) : Go.bits .xor .u32 (a : Int) (b : Int) = ((a ^^^ b : Nat) : Int) :=
  xor_nat .u32 32 (by decide) wraps_u32 a b ha hb
theorem and1_i64 (a : Nat) (ha : a < 2 ^ 32) : Go.bits .and .i64 (a : Int) 1 = (a : Int) % 2 := bits_mask .i64 62 (by decide) wraps_i64 1 (by decide) _ (by omega) (by omega)
theorem and1_u32 (a : Nat) (ha : a < 2 ^ 32) : Go.bits .and .u32 (a : Int) 1 = (a : Int) % 2 := bits_mask .u32 32 (by decide) wraps_u32 1 (by decide) _ (by omega) (by omega)
def sum4 (c : Int) : List Int := [c / 16777216 % 256, c / 65536 % 256, c / 256 % 256, c % 256]
theorem sum4_bytes (c : Int) : ∀ b ∈ sum4 c, 0 ≤ b ∧ b ≤ 255 := by
  intro b hb
  simp only [sum4, List.mem_cons, List.not_mem_nil, or_false] at hb
  omega
theorem wf_byte {n : Int} (h : (Lit.int .u8 n).wf = true) : 0 ≤ n ∧ n ≤ 255 := by
  have h1 : IntKind.u8.min = 0 := by decide
  have h2 : IntKind.u8.max = 255 := by decide
  simpa [Lit.wf, h1, h2] using h
theorem bytesOf_strOf (l : List Int) (hb : ∀ b ∈ l, 0 ≤ b ∧ b ≤ 255) : bytesOf (strOfNums l) = l := by
  have h : (bytesOf (strOfNums l)) = l.map fun n => ((UInt8.ofNat n.toNat).toNat : Int) := by
    unfold bytesOf strNums
    rw [strOfNums_data, List.map_map]
    rfl
  rw [h]
  have : l.map (fun n => ((UInt8.ofNat n.toNat).toNat : Int)) = l.map id := by
    apply List.map_congr_left
    intro n hn
    have := hb n hn
    simp only [id, UInt8.toNat_ofNat']
    omega
  rw [this, List.map_id]
theorem groups_bytes (n : Int) (h0 : 0 ≤ n) (h1 : n ≤ 1000000) : ∀ b ∈ groups n, 0 ≤ b ∧ b ≤ 255 := by
  intro b hb
  unfold groups at hb
  by_cases c : n > 127
  · rw [if_pos c] at hb
    by_cases c2 : n / 128 > 127
    · rw [if_pos c2] at hb
      simp only [List.mem_cons, List.not_mem_nil, or_false] at hb
      omega
    · rw [if_neg c2] at hb
      simp only [List.mem_cons, List.not_mem_nil, or_false] at hb
      omega
  · rw [if_neg c] at hb
    simp only [List.mem_cons, List.not_mem_nil, or_false] at hb
    omega
theorem uM_bytes (n : Int) : ∀ b ∈ uM n, 0 ≤ b ∧ b ≤ 255 := groups_bytes _ (clampU_bd n).1 (clampU_bd n).2
theorem app_bytes {a b : List Int} (ha : ∀ x ∈ a, 0 ≤ x ∧ x ≤ 255) (hb : ∀ x ∈ b, 0 ≤ x ∧ x ≤ 255) : ∀ x ∈ a ++ b, 0 ≤ x ∧ x ≤ 255 := fun x hx => (List.mem_append.1 hx).elim (ha x) (hb x)
theorem bytesOf_bytes (s : ByteArray) : ∀ x ∈ bytesOf s, 0 ≤ x ∧ x ≤ 255 := by
  intro x hx
  unfold bytesOf at hx
  obtain ⟨b, _, rfl⟩ := List.mem_map.1 hx
  have := b.toNat_lt
  omega
/-- A page: its kind, its body with its length, and the sum. -/
def pageBody (n : Int) (l : List Int) : List Int := uM n ++ uM l.length ++ l
def pageM (n : Int) (l : List Int) : List Int := if inB n 1 2 = true ∧ l.length ≤ 240 then pageBody n l ++ sum4 (crcM (pageBody n l)) else []
theorem pageBody_bytes (n : Int) (l : List Int) (hb : ∀ b ∈ l, 0 ≤ b ∧ b ≤ 255) : ∀ b ∈ pageBody n l, 0 ≤ b ∧ b ≤ 255 := app_bytes (app_bytes (uM_bytes _) (uM_bytes _)) hb
theorem pageM_len (n : Int) (l : List Int) : (pageM n l).length ≤ 250 := by
  unfold pageM
  by_cases h : inB n 1 2 = true ∧ l.length ≤ 240
  · rw [if_pos h]
    have h1 := uM_len n
    have h2 := uM_len l.length
    simp only [pageBody, sum4, List.length_append, List.length_cons, List.length_nil]
    omega
  · rw [if_neg h]; simp
theorem flatMap_len {β : Type} (l : List β) (f : β → List Int) : (l.flatMap f).length = (l.map fun x => (f x).length).sum := by
  induction l with
  | nil => rfl
  | cons x r ih => rw [List.flatMap_cons, List.length_append, ih, List.map_cons, List.sum_cons]
theorem sum_le3 {β : Type} (l : List β) (f : β → List Int) (g : β → Nat) (h : ∀ x, (f x).length ≤ 3 + g x) : (l.map fun x => (f x).length).sum ≤ 3 * l.length + (l.map g).sum := by
  induction l with
  | nil => simp
  | cons x r ih =>
    have := h x
    simp only [List.map_cons, List.sum_cons, List.length_cons]
    omega
theorem sum_uM (ids : List Int) : (ids.map fun x => (uM x).length).sum ≤ 3 * ids.length := by
  induction ids with
  | nil => simp
  | cons x r ih =>
    have := uM_len x
    simp only [List.map_cons, List.sum_cons, List.length_cons]
    omega
def txtM (s : ByteArray) : List Int := uM s.size ++ bytesOf s
theorem txtM_len (s : ByteArray) : (txtM s).length ≤ 3 + s.size := by
  have := uM_len s.size
  unfold txtM
  rw [List.length_append, bytesOf_length]
  omega
/-- The bytes of a node. -/
def nodeB (b : Bool) (ks vs : List ByteArray) (ids : List Int) : List Int :=
  let h := uM (if b = true then 1 else 0) ++ uM ks.length ++ ks.flatMap txtM
  if b = true then h ++ vs.flatMap txtM else h ++ ids.flatMap uM
theorem nodeB_len (b : Bool) (ks vs : List ByteArray) (ids : List Int) : (nodeB b ks vs ids).length ≤ 6 + (3 * ks.length + (ks.map ByteArray.size).sum) + (3 * vs.length + (vs.map ByteArray.size).sum) + 3 * ids.length := by
  have h1 := uM_len (if b = true then 1 else 0)
  have h2 := uM_len ks.length
  have h3 := sum_le3 ks txtM ByteArray.size txtM_len
  have h4 := sum_le3 vs txtM ByteArray.size txtM_len
  have h5 := sum_uM ids
  unfold nodeB
  by_cases c : b = true
  · simp only [if_pos c] at h1 ⊢
    simp only [List.length_append, flatMap_len]
    omega
  · simp only [if_neg c] at h1 ⊢
    simp only [List.length_append, flatMap_len]
    omega
/-- Are keys rising, each of at most 48 bytes? (p: the key ahead, if there is one) -/
def risingM : Option ByteArray → List ByteArray → Bool
  | _, [] => true
  | p, x :: r => if (x.size : Int) > 48 then false else match p with
    | none => risingM (some x) r
    | some y => if Op.bytesLess y.toList x.toList = true then risingM (some x) r else false
def nodeOkM (b : Bool) (ks vs : List ByteArray) (ids : List Int) : Bool :=
  risingM none ks && decide (((nodeB b ks vs ids).length : Int) ≤ 240) &&
    (if b = true then vs.all (fun v => decide ((v.size : Int) ≤ 60)) && decide (1 ≤ ks.length) && decide (vs.length = ks.length) && decide (ids.length = 0)
     else ids.all (fun n => inB n 2 47) && decide (1 ≤ ids.length) && decide (ks.length + 1 = ids.length) && decide (vs.length = 0))
/-- A number's bytes, at most d of them, the highest first. -/
def beM : Nat → Int → List Int
  | 0, _ => []
  | d + 1, x => if x > 0 then beM d (x / 256) ++ [x % 256] else []
/-- The bytes from the (n-1)-th down to the lowest. -/
def digM (x : Int) : Nat → List Int
  | 0 => []
  | j + 1 => (x / 256 ^ j % 256) :: digM x j
theorem digM_succ (x : Int) : ∀ (n : Nat), digM x (n + 1) = digM (x / 256) n ++ [x % 256]
  | 0 => by simp [digM]
  | n + 1 => by
    rw [digM, digM_succ x n, digM, List.cons_append]
    congr 2
    rw [Int.ediv_ediv_of_nonneg (by omega), Int.pow_succ, Int.mul_comm]
theorem digM_len (x : Int) : ∀ n, (digM x n).length = n
  | 0 => rfl
  | n + 1 => by rw [digM, List.length_cons, digM_len x n]
theorem beM_zero : ∀ (d : Nat) (x : Int), x ≤ 0 → beM d x = []
  | 0, _, _ => rfl
  | d + 1, x, h => by rw [beM, if_neg (by omega)]
theorem beM_dig : ∀ (d : Nat) (x : Int), beM d x = digM x (beM d x).length
  | 0, _ => rfl
  | d + 1, x => by
    rw [beM]
    by_cases h : x > 0
    · rw [if_pos h, List.length_append, List.length_singleton, digM_succ, ← beM_dig d (x / 256)]
    · rw [if_neg h]; rfl
theorem beM_len : ∀ (d : Nat) (x : Int), (beM d x).length ≤ d
  | 0, _ => Nat.le_refl _
  | d + 1, x => by
    rw [beM]
    by_cases h : x > 0
    · rw [if_pos h, List.length_append, List.length_singleton]; have := beM_len d (x / 256); omega
    · rw [if_neg h]; exact Nat.zero_le _
theorem beM_bytes : ∀ (d : Nat) (x : Int), ∀ b ∈ beM d x, 0 ≤ b ∧ b ≤ 255
  | 0, _, b, h => by cases h
  | d + 1, x, b, h => by
    rw [beM] at h
    by_cases c : x > 0
    · rw [if_pos c] at h
      rcases List.mem_append.1 h with h | h
      · exact beM_bytes d _ b h
      · rw [List.mem_singleton] at h; omega
    · rw [if_neg c] at h; cases h
theorem xor255_nat (b : Nat) (h : b < 2 ^ 8) : 255 ^^^ b = 255 - b := by
  apply Nat.eq_of_testBit_eq
  intro i
  rw [Nat.testBit_xor, show (255 : Nat) = 2 ^ 8 - 1 from rfl, Nat.testBit_two_pow_sub_one, show 2 ^ 8 - 1 - b = 2 ^ 8 - (b + 1) by omega, Nat.testBit_two_pow_sub_succ h]
  by_cases c : i < 8
  · simp [c]
  · have : b.testBit i = false := Nat.testBit_lt_two_pow (Nat.lt_of_lt_of_le h (Nat.pow_le_pow_right (by decide) (by omega)))
    simp [c, this]
theorem xor_u8 (a b : Nat) (ha : a < 2 ^ 8) (hb : b < 2 ^ 8) : Go.bits .xor .u8 (a : Int) (b : Int) = ((a ^^^ b : Nat) : Int) := xor_nat .u8 8 (by decide) wraps_u8 a b ha hb
theorem flip_l (b : Int) (h0 : 0 ≤ b) (h1 : b ≤ 255) : Go.bits .xor .u8 255 b = 255 - b := by
  obtain ⟨n, rfl⟩ := Int.eq_ofNat_of_zero_le h0
  have h := xor_u8 255 n (by decide) (by omega)
  have e := xor255_nat n (by omega)
  rw [show (255 : Int) = ((255 : Nat) : Int) from rfl, h, e]
  omega
theorem flip_r (b : Int) (h0 : 0 ≤ b) (h1 : b ≤ 255) : Go.bits .xor .u8 b 255 = 255 - b := by
  obtain ⟨n, rfl⟩ := Int.eq_ofNat_of_zero_le h0
  have h := xor_u8 n 255 (by omega) (by decide)
  have e := xor255_nat n (by omega)
  rw [Nat.xor_comm] at e
  rw [show (255 : Int) = ((255 : Nat) : Int) from rfl, h, e]
  omega
theorem flip_0 (b : Int) (h0 : 0 ≤ b) (h1 : b ≤ 255) : Go.bits .xor .u8 b 0 = b := by
  obtain ⟨n, rfl⟩ := Int.eq_ofNat_of_zero_le h0
  have h := xor_u8 n 0 (by omega) (by decide)
  rw [Nat.xor_zero] at h
  exact h
/-- A number within the bounds of a long number. -/
def clampV (n : Int) : Int := if n > 1000000000000000 then 1000000000000000 else if n < -1000000000000000 then -1000000000000000 else n
theorem clampV_bd (n : Int) : -1000000000000000 ≤ clampV n ∧ clampV n ≤ 1000000000000000 := by
  by_cases h : n > 1000000000000000 <;> by_cases h2 : n < -1000000000000000 <;> simp [clampV, h, h2] <;> omega
def varM (n : Int) : List Int :=
  if clampV n ≥ 0 then (128 + ((beM 7 (clampV n)).length : Int)) :: beM 7 (clampV n)
  else (127 - ((beM 7 (-1 - clampV n)).length : Int)) :: (beM 7 (-1 - clampV n)).map (fun b => 255 - b)
theorem varM_len (n : Int) : 1 ≤ (varM n).length ∧ (varM n).length ≤ 8 := by
  unfold varM
  by_cases c : clampV n ≥ 0
  · rw [if_pos c, List.length_cons]; have := beM_len 7 (clampV n); omega
  · rw [if_neg c, List.length_cons, List.length_map]; have := beM_len 7 (-1 - clampV n); omega
theorem varM_bytes (n : Int) : ∀ b ∈ varM n, 0 ≤ b ∧ b ≤ 255 := by
  intro b hb
  unfold varM at hb
  by_cases c : clampV n ≥ 0
  · rw [if_pos c] at hb
    have := beM_len 7 (clampV n)
    rcases List.mem_cons.1 hb with rfl | hb
    · omega
    · exact beM_bytes 7 _ b hb
  · rw [if_neg c] at hb
    have := beM_len 7 (-1 - clampV n)
    rcases List.mem_cons.1 hb with rfl | hb
    · omega
    · obtain ⟨a, ha, rfl⟩ := List.mem_map.1 hb
      have := beM_bytes 7 _ a ha
      omega
theorem shr_at (x : Int) (j : Nat) (hj : j ≤ 7) : shr .i64 x (8 * (j : Int)) = x / 256 ^ j := by
  unfold shr
  rw [Int.fdiv_eq_ediv_of_nonneg _ (Int.le_of_lt (Int.pow_pos (by decide)))]
  have e : min (8 * (j : Int)).toNat IntKind.i64.bits = 8 * j := by
    have : IntKind.i64.bits = 64 := rfl
    omega
  rw [e, Int.pow_mul]
  rfl
/-- What a value's bytes are: its kind, and then its number or its text. -/
def valM (k n : Int) (s : ByteArray) : List Int := uM k ++ (if k = 1 ∨ k = 2 then varM n else if k = 3 then txtM s else if k = 4 then [n % 256] else [])
theorem txtM_bytes (s : ByteArray) : ∀ b ∈ txtM s, 0 ≤ b ∧ b ≤ 255 := app_bytes (uM_bytes _) (bytesOf_bytes s)
theorem valM_bytes (k n : Int) (s : ByteArray) : ∀ b ∈ valM k n s, 0 ≤ b ∧ b ≤ 255 := by
  unfold valM
  refine app_bytes (uM_bytes _) ?_
  split
  · exact varM_bytes n
  · split
    · exact txtM_bytes s
    · split
      · intro b hb; rw [List.mem_singleton] at hb; omega
      · intro b hb; cases hb
theorem valM_len (k n : Int) (s : ByteArray) : (valM k n s).length ≤ 11 + s.size := by
  have h := uM_len k
  have h2 := varM_len n
  have h3 := txtM_len s
  unfold valM
  rw [List.length_append]
  split
  · omega
  · split
    · omega
    · split
      · simp; omega
      · simp; omega
theorem or_add (i : Nat) (a b : Int) (ha0 : 0 ≤ a) (ha : a * 2 ^ i < ((2 ^ 62 : Nat) : Int)) (hb0 : 0 ≤ b) (hb : b < 2 ^ i) (hi : i ≤ 60) : Go.bits .or .i64 (a * 2 ^ i) b = a * 2 ^ i + b := by
  obtain ⟨x, rfl⟩ := Int.eq_ofNat_of_zero_le ha0
  obtain ⟨y, rfl⟩ := Int.eq_ofNat_of_zero_le hb0
  have hy : y < 2 ^ i := by exact_mod_cast hb
  have e0 : ((x : Int) * 2 ^ i) = ((x * 2 ^ i : Nat) : Int) := by push_cast; rfl
  rw [e0] at ha ⊢
  have hx : x * 2 ^ i < 2 ^ 62 := Int.ofNat_lt.1 ha
  have hp : 2 ^ i ≤ 2 ^ 60 := Nat.pow_le_pow_right (by decide) hi
  have h := (bits_nat .i64 62 (by decide) wraps_i64 (x * 2 ^ i) y hx (by omega)).2
  have e := Nat.two_pow_add_eq_or_of_lt hy x
  rw [Nat.mul_comm (2 ^ i) x] at e
  rw [h, ← e]
  exact Int.natCast_add _ _
theorem or_byte (a b : Int) (ha0 : 0 ≤ a) (ha : a < 72057594037927936 / 4) (hb0 : 0 ≤ b) (hb : b < 256) : Go.bits .or .i64 (a * 256) b = a * 256 + b := or_add 8 a b ha0 (by omega) hb0 hb (by omega)
theorem or_comm_i64 (a b : Int) (ha0 : 0 ≤ a) (ha : a < 4611686018427387904) (hb0 : 0 ≤ b) (hb : b < 4611686018427387904) : Go.bits .or .i64 a b = Go.bits .or .i64 b a := by
  obtain ⟨x, rfl⟩ := Int.eq_ofNat_of_zero_le ha0
  obtain ⟨y, rfl⟩ := Int.eq_ofNat_of_zero_le hb0
  rw [(bits_nat .i64 62 (by decide) wraps_i64 x y (by omega) (by omega)).2, (bits_nat .i64 62 (by decide) wraps_i64 y x (by omega) (by omega)).2, Nat.or_comm]
theorem shl_at (x : Int) (i : Nat) (hi : i ≤ 2) (h0 : 0 ≤ x) (h1 : x ≤ 127) : shl .i64 x (7 * (i : Int)) = x * 128 ^ i := by
  have b : IntKind.i64.bits = 64 := rfl
  unfold shl
  have e : min (7 * (i : Int)).toNat IntKind.i64.bits = 7 * i := by omega
  rw [e, Int.pow_mul, show ((2 : Int) ^ 7) = 128 from rfl]
  match i, hi with
  | 0, _ => rw [Int.pow_zero]; exact wraps_i64 _ (by omega) (by omega)
  | 1, _ => rw [Int.pow_succ, Int.pow_zero]; exact wraps_i64 _ (by omega) (by omega)
  | 2, _ => rw [Int.pow_succ, Int.pow_succ, Int.pow_zero]; exact wraps_i64 _ (by omega) (by omega)
/-- A number in groups of seven bits, the i-th group on, v so far: the number, and how many bytes it has. -/
def getUR : Nat → Nat → Int → List Int → Option (Int × Nat)
  | 0, _, _, _ => none
  | _ + 1, _, _, [] => none
  | d + 1, i, v, x :: r => if x > 127 then getUR d (i + 1) (v + (x - 128) * 128 ^ i) r else if x = 0 ∧ i > 0 then none else if v + x * 128 ^ i > 1000000 then none else some (v + x * 128 ^ i, i + 1)
def getUM (r : List Int) : Option (Int × Nat) := getUR 3 0 0 r
/-- What is read is the number's bytes. -/
theorem getUM_exact {r : List Int} (hb : ∀ b ∈ r, 0 ≤ b ∧ b ≤ 255) {n : Int} {c : Nat} (h : getUM r = some (n, c)) : 0 ≤ n ∧ n ≤ 1000000 ∧ c ≤ r.length ∧ 1 ≤ c ∧ uM n = r.take c ∧ r = uM n ++ r.drop c := by
  have key : 0 ≤ n ∧ n ≤ 1000000 ∧ c ≤ r.length ∧ 1 ≤ c ∧ uM n = r.take c := by
    unfold getUM at h
    match r with
    | [] => simp [getUR] at h
    | x :: r =>
      have hx := hb x List.mem_cons_self
      rw [getUR] at h
      by_cases c1 : x > 127
      · rw [if_pos c1] at h
        match r with
        | [] => simp [getUR] at h
        | y :: r =>
          have hy := hb y (by simp)
          rw [getUR] at h
          by_cases c2 : y > 127
          · rw [if_pos c2] at h
            match r with
            | [] => simp [getUR] at h
            | z :: r =>
              have hz := hb z (by simp)
              rw [getUR] at h
              by_cases c3 : z > 127
              · rw [if_pos c3] at h; simp [getUR] at h
              · rw [if_neg c3] at h
                by_cases c4 : z = 0 ∧ 0 + 1 + 1 > 0
                · rw [if_pos c4] at h; cases h
                · rw [if_neg c4] at h
                  split at h
                  · cases h
                  · rename_i c5
                    simp only [Option.some.injEq, Prod.mk.injEq] at h
                    obtain ⟨rfl, rfl⟩ := h
                    have hz0 : z ≠ 0 := fun e => c4 ⟨e, by omega⟩
                    simp only [Int.pow_zero, Int.pow_succ, Int.one_mul, Int.mul_one, Int.zero_add, Nat.zero_add, Nat.reduceAdd] at c5 ⊢
                    refine ⟨by omega, by omega, by simp, by omega, ?_⟩
                    unfold uM
                    rw [show clampU (x - 128 + (y - 128) * 128 + z * (128 * 128)) = x - 128 + (y - 128) * 128 + z * (128 * 128) by unfold clampU; rw [if_neg (by omega), if_neg (by omega)]]
                    unfold groups
                    rw [if_pos (by omega), if_pos (by omega)]
                    simp only [List.take_succ_cons, List.take_zero]
                    congr 1
                    · omega
                    · congr 1
                      · omega
                      · congr 1; omega
          · rw [if_neg c2] at h
            by_cases c4 : y = 0 ∧ 0 + 1 > 0
            · rw [if_pos c4] at h; cases h
            · rw [if_neg c4] at h
              split at h
              · cases h
              · rename_i c5
                simp only [Option.some.injEq, Prod.mk.injEq] at h
                obtain ⟨rfl, rfl⟩ := h
                have hy0 : y ≠ 0 := fun e => c4 ⟨e, by omega⟩
                simp only [Int.pow_zero, Int.pow_succ, Int.one_mul, Int.mul_one, Int.zero_add, Nat.zero_add, Nat.reduceAdd] at c5 ⊢
                refine ⟨by omega, by omega, by simp, by omega, ?_⟩
                unfold uM
                rw [show clampU (x - 128 + y * 128) = x - 128 + y * 128 by unfold clampU; rw [if_neg (by omega), if_neg (by omega)]]
                unfold groups
                rw [if_pos (by omega), if_neg (by omega)]
                simp only [List.take_succ_cons, List.take_zero]
                congr 1
                · omega
                · congr 1; omega
      · rw [if_neg c1] at h
        rw [if_neg (by omega)] at h
        split at h
        · cases h
        · rename_i c5
          simp only [Option.some.injEq, Prod.mk.injEq] at h
          obtain ⟨rfl, rfl⟩ := h
          simp only [Int.pow_zero, Int.mul_one, Int.zero_add, Nat.zero_add] at c5 ⊢
          refine ⟨by omega, by omega, by simp, by omega, ?_⟩
          unfold uM
          rw [show clampU x = x by unfold clampU; rw [if_neg (by omega), if_neg (by omega)]]
          unfold groups
          rw [if_neg (by omega)]
          simp
  exact ⟨key.1, key.2.1, key.2.2.1, key.2.2.2.1, key.2.2.2.2, by rw [key.2.2.2.2, List.take_append_drop]⟩
/-- A number's bytes are read as it. -/
theorem getUM_put (n : Int) (h0 : 0 ≤ n) (h1 : n ≤ 1000000) (r : List Int) : getUM (uM n ++ r) = some (n, (uM n).length) := by
  have e : clampU n = n := by unfold clampU; rw [if_neg (by omega), if_neg (by omega)]
  unfold getUM uM
  rw [e]
  unfold groups
  by_cases c : n > 127
  · rw [if_pos c]
    by_cases c2 : n / 128 > 127
    · rw [if_pos c2]
      simp only [List.cons_append, List.nil_append, getUR, List.length_cons, List.length_nil]
      rw [if_pos (by omega), if_pos (by omega), if_neg (by omega), if_neg (by omega)]
      simp only [Int.pow_zero, Int.pow_succ, Int.one_mul, Int.mul_one, Int.zero_add, Nat.zero_add, Nat.reduceAdd]
      rw [if_neg (by omega)]
      congr 2
      omega
    · rw [if_neg c2]
      simp only [List.cons_append, List.nil_append, getUR, List.length_cons, List.length_nil]
      rw [if_pos (by omega), if_neg (by omega), if_neg (by omega)]
      simp only [Int.pow_zero, Int.pow_succ, Int.one_mul, Int.mul_one, Int.zero_add, Nat.zero_add, Nat.reduceAdd]
      rw [if_neg (by omega)]
      congr 2
      omega
  · rw [if_neg c]
    simp only [List.cons_append, List.nil_append, getUR, List.length_cons, List.length_nil]
    rw [if_neg (by omega), if_neg (by omega)]
    simp only [Int.pow_zero, Int.mul_one, Int.zero_add, Nat.zero_add]
    rw [if_neg (by omega)]
theorem snoc_ind {P : List Int → Prop} (h0 : P []) (h1 : ∀ l b, P l → P (l ++ [b])) (l : List Int) : P l := by
  have h : ∀ l : List Int, P l.reverse := by
    intro l
    induction l with
    | nil => exact h0
    | cons b l ih => rw [List.reverse_cons]; exact h1 _ _ ih
  have := h l.reverse
  rwa [List.reverse_reverse] at this
def foldB (v : Int) (l : List Int) : Int := l.foldl (fun a b => a * 256 + b) v
theorem foldB_snoc (v : Int) (l : List Int) (b : Int) : foldB v (l ++ [b]) = foldB v l * 256 + b := by unfold foldB; rw [List.foldl_append]; rfl
theorem foldB_bd (l : List Int) : (∀ b ∈ l, 0 ≤ b ∧ b ≤ 255) → 0 ≤ foldB 0 l ∧ foldB 0 l < 256 ^ l.length := by
  refine snoc_ind (P := fun l => (∀ b ∈ l, 0 ≤ b ∧ b ≤ 255) → 0 ≤ foldB 0 l ∧ foldB 0 l < 256 ^ l.length) ?_ ?_ l
  · intro _; simp [foldB]
  · intro l b ih hb
    have i := ih (fun x hx => hb x (by simp [hx]))
    have h := hb b (by simp)
    rw [foldB_snoc, List.length_append, List.length_singleton, Int.pow_succ]
    omega
theorem digM_fold (l : List Int) : (∀ b ∈ l, 0 ≤ b ∧ b ≤ 255) → digM (foldB 0 l) l.length = l := by
  refine snoc_ind (P := fun l => (∀ b ∈ l, 0 ≤ b ∧ b ≤ 255) → digM (foldB 0 l) l.length = l) ?_ ?_ l
  · intro _; rfl
  · intro l b ih hb
    have i := ih (fun x hx => hb x (by simp [hx]))
    have h := hb b (by simp)
    rw [foldB_snoc, List.length_append, List.length_singleton, digM_succ]
    rw [show (foldB 0 l * 256 + b) / 256 = foldB 0 l by omega, show (foldB 0 l * 256 + b) % 256 = b by omega, i]
theorem foldB_be : ∀ (d : Nat) (x : Int), 0 ≤ x → x < 256 ^ d → foldB 0 (beM d x) = x
  | 0, x, h0, h1 => by
    rw [Int.pow_zero] at h1
    simp only [beM, foldB, List.foldl_nil]
    omega
  | d + 1, x, h0, h1 => by
    rw [beM]
    by_cases c : x > 0
    · rw [if_pos c, foldB_snoc, foldB_be d (x / 256) (by omega) (by rw [Int.pow_succ] at h1; exact Int.ediv_lt_of_lt_mul (by omega) h1)]
      omega
    · rw [if_neg c]; simp only [foldB, List.foldl_nil]; omega
/-- Bytes of a number, no zero ahead. -/
theorem beM_fold (l : List Int) (hb : ∀ b ∈ l, 0 ≤ b ∧ b ≤ 255) (h : (beM 7 (foldB 0 l)).length = l.length) : beM 7 (foldB 0 l) = l := by
  rw [beM_dig, h, digM_fold l hb]
def flipIf (b : Bool) (l : List Int) : List Int := if b = true then l.map (fun x => 255 - x) else l
theorem flipIf_bytes (b : Bool) {l : List Int} (h : ∀ x ∈ l, 0 ≤ x ∧ x ≤ 255) : ∀ x ∈ flipIf b l, 0 ≤ x ∧ x ≤ 255 := by
  intro x hx
  unfold flipIf at hx
  split at hx
  · obtain ⟨y, hy, rfl⟩ := List.mem_map.1 hx
    have := h y hy
    omega
  · exact h x hx
theorem flipIf_len (b : Bool) (l : List Int) : (flipIf b l).length = l.length := by unfold flipIf; split <;> simp
theorem flipIf_flipIf (b : Bool) (l : List Int) : flipIf b (flipIf b l) = l := by
  cases b
  · rfl
  · unfold flipIf
    rw [if_pos rfl, if_pos rfl, List.map_map]
    have : ((fun x : Int => 255 - x) ∘ fun x => 255 - x) = id := by funext x; simp only [Function.comp, id]; omega
    rw [this, List.map_id]
/-- How long the number is whose first byte is x. -/
def lenOf (x : Int) : Int := if x < 128 then 127 - x else x - 128
def negIf (b : Bool) (v : Int) : Int := if b = true then -1 - v else v
def getVarM : List Int → Option (Int × Nat)
  | [] => none
  | x :: t =>
    if inB x 120 135 = true then
      (if (t.length : Int) < lenOf x then none else
        let bs := flipIf (decide (x < 128)) (t.take (lenOf x).toNat)
        let v := foldB 0 bs
        if ((beM 7 v).length : Int) = lenOf x then
          (if inB (negIf (decide (x < 128)) v) (-1000000000000000) 1000000000000000 = true then some (negIf (decide (x < 128)) v, 1 + (lenOf x).toNat) else none)
        else none)
    else none
theorem getVarM_exact {r : List Int} (hb : ∀ b ∈ r, 0 ≤ b ∧ b ≤ 255) {n : Int} {c : Nat} (h : getVarM r = some (n, c)) : c ≤ r.length ∧ r = varM n ++ r.drop c ∧ -1000000000000000 ≤ n ∧ n ≤ 1000000000000000 := by
  match r with
  | [] => cases h
  | x :: t =>
    simp only [getVarM] at h
    split at h
    · rename_i hx
      have hx := inB_iff.1 hx
      have hl : 0 ≤ lenOf x ∧ lenOf x ≤ 7 := by unfold lenOf; split <;> omega
      split at h
      · cases h
      · rename_i ht
        split at h
        · rename_i hc
          split at h
          · rename_i hv
            have hv := inB_iff.1 hv
            simp only [Option.some.injEq, Prod.mk.injEq] at h
            obtain ⟨rfl, rfl⟩ := h
            have hbt : ∀ b ∈ t.take (lenOf x).toNat, 0 ≤ b ∧ b ≤ 255 := fun b hm => hb b (List.mem_cons_of_mem _ (List.mem_of_mem_take hm))
            have hbs := flipIf_bytes (decide (x < 128)) hbt
            have hlen : (flipIf (decide (x < 128)) (t.take (lenOf x).toNat)).length = (lenOf x).toNat := by rw [flipIf_len, List.length_take]; omega
            have e := beM_fold _ hbs (by rw [hlen]; omega)
            have bd := (foldB_bd _ hbs).1
            refine ⟨by rw [List.length_cons]; omega, ?_, hv.1, hv.2⟩
            have e2 : (x :: t).drop (1 + (lenOf x).toNat) = t.drop (lenOf x).toNat := by rw [Nat.add_comm]; rfl
            rw [e2]
            have e3 : varM (negIf (decide (x < 128)) (foldB 0 (flipIf (decide (x < 128)) (t.take (lenOf x).toNat)))) = x :: t.take (lenOf x).toNat := by
              unfold varM
              rw [show clampV (negIf (decide (x < 128)) (foldB 0 (flipIf (decide (x < 128)) (t.take (lenOf x).toNat)))) = negIf (decide (x < 128)) (foldB 0 (flipIf (decide (x < 128)) (t.take (lenOf x).toNat))) by unfold clampV; rw [if_neg (by omega), if_neg (by omega)]]
              by_cases c : x < 128
              · rw [decide_eq_true c] at *
                simp only [negIf, if_true] at *
                rw [if_neg (by omega)]
                rw [show -1 - (-1 - foldB 0 (flipIf true (t.take (lenOf x).toNat))) = foldB 0 (flipIf true (t.take (lenOf x).toNat)) by omega, hc, e]
                have e4 := flipIf_flipIf true (t.take (lenOf x).toNat)
                rw [show (flipIf true (t.take (lenOf x).toNat)).map (fun b => 255 - b) = t.take (lenOf x).toNat from e4]
                congr 1
                unfold lenOf; rw [if_pos c]; omega
              · rw [decide_eq_false c] at *
                simp only [negIf, Bool.false_eq_true, if_false] at *
                rw [if_pos bd, hc, e]
                have : flipIf false (t.take (lenOf x).toNat) = t.take (lenOf x).toNat := rfl
                rw [this]
                congr 1
                unfold lenOf; rw [if_neg c]; omega
            rw [e3, List.cons_append, List.take_append_drop]
          · cases h
        · cases h
    · cases h
def getTextM (r : List Int) : Option (ByteArray × Nat) := match getUM r with
  | none => none
  | some (n, c) => if n > (r.length : Int) - c then none else some (strOfNums ((r.drop c).take n.toNat), c + n.toNat)
theorem strOfNums_len (l : List Int) : (strOfNums l).size = l.length := strOfNums_size l
theorem getTextM_exact {r : List Int} (hb : ∀ b ∈ r, 0 ≤ b ∧ b ≤ 255) {s : ByteArray} {c : Nat} (h : getTextM r = some (s, c)) : c ≤ r.length ∧ r = txtM s ++ r.drop c ∧ s.size ≤ c := by
  unfold getTextM at h
  cases hu : getUM r with
  | none => rw [hu] at h; cases h
  | some p =>
    obtain ⟨n, c0⟩ := p
    rw [hu] at h
    simp only at h
    have ⟨n0, n1, cl, c1, _, hr⟩ := getUM_exact hb hu
    split at h
    · cases h
    · rename_i hn
      simp only [Option.some.injEq, Prod.mk.injEq] at h
      obtain ⟨rfl, rfl⟩ := h
      have hl : ((r.drop c0).take n.toNat).length = n.toNat := by rw [List.length_take, List.length_drop]; omega
      have hbt : ∀ b ∈ (r.drop c0).take n.toNat, 0 ≤ b ∧ b ≤ 255 := fun b hm => hb b (List.mem_of_mem_drop (List.mem_of_mem_take hm))
      refine ⟨by omega, ?_, by rw [strOfNums_size, hl]; omega⟩
      unfold txtM
      rw [strOfNums_size, hl, bytesOf_strOf _ hbt, show ((n.toNat : Nat) : Int) = n by omega, List.append_assoc]
      have e : r.drop (c0 + n.toNat) = (r.drop c0).drop n.toNat := by rw [List.drop_drop]
      rw [e, List.take_append_drop]
      exact hr
/-- A value: its kind, its number, its text, and how many bytes. -/
def valueM (r : List Int) : Option (Int × Int × ByteArray × Nat) := match getUM r with
  | none => none
  | some (k, c) =>
    if k = 1 ∨ k = 2 then (match getVarM (r.drop c) with | none => none | some (n, c2) => some (k, n, ⟨#[]⟩, c + c2))
    else if k = 3 then (match getTextM (r.drop c) with | none => none | some (s, c2) => some (k, 0, s, c + c2))
    else if k = 4 then (match r.drop c with | [] => none | x :: _ => some (k, x, ⟨#[]⟩, c + 1))
    else some (k, 0, ⟨#[]⟩, c)
theorem valueM_exact {r : List Int} (hb : ∀ b ∈ r, 0 ≤ b ∧ b ≤ 255) {k n : Int} {s : ByteArray} {c : Nat} (h : valueM r = some (k, n, s, c)) : c ≤ r.length ∧ r = valM k n s ++ r.drop c ∧ s.size ≤ c := by
  unfold valueM at h
  cases hu : getUM r with
  | none => rw [hu] at h; cases h
  | some p =>
    obtain ⟨k0, c0⟩ := p
    rw [hu] at h
    simp only at h
    have ⟨_, _, cl, c1, _, hr⟩ := getUM_exact hb hu
    have hbd : ∀ b ∈ r.drop c0, 0 ≤ b ∧ b ≤ 255 := fun b hm => hb b (List.mem_of_mem_drop hm)
    have fin : ∀ (t : List Int) (c2 : Nat), r.drop c0 = t ++ (r.drop c0).drop c2 → r = uM k0 ++ t ++ r.drop (c0 + c2) := by
      intro t c2 ht
      rw [List.append_assoc, ← List.drop_drop, ← ht]
      exact hr
    unfold valM
    split at h
    · rename_i hk
      cases hv : getVarM (r.drop c0) with
      | none => rw [hv] at h; cases h
      | some q =>
        obtain ⟨n2, c2⟩ := q
        rw [hv] at h
        simp only [Option.some.injEq, Prod.mk.injEq] at h
        obtain ⟨rfl, rfl, rfl, rfl⟩ := h
        have ⟨e1, e2, _, _⟩ := getVarM_exact hbd hv
        rw [List.length_drop] at e1
        rw [if_pos hk]
        exact ⟨by omega, fin _ _ e2, by show 0 ≤ _; omega⟩
    · rename_i hk
      rw [if_neg (by
        intro hk2
        split at h
        · cases hv : getTextM (r.drop c0) with
          | none => rw [hv] at h; cases h
          | some q => rw [hv] at h; simp only [Option.some.injEq, Prod.mk.injEq] at h; exact hk (h.1 ▸ hk2)
        · split at h
          · split at h
            · cases h
            · simp only [Option.some.injEq, Prod.mk.injEq] at h; exact hk (h.1 ▸ hk2)
          · simp only [Option.some.injEq, Prod.mk.injEq] at h; exact hk (h.1 ▸ hk2))]
      split at h
      · rename_i hk3
        cases hv : getTextM (r.drop c0) with
        | none => rw [hv] at h; cases h
        | some q =>
          obtain ⟨s2, c2⟩ := q
          rw [hv] at h
          simp only [Option.some.injEq, Prod.mk.injEq] at h
          obtain ⟨rfl, rfl, rfl, rfl⟩ := h
          have ⟨e1, e2, e3⟩ := getTextM_exact hbd hv
          rw [List.length_drop] at e1
          rw [if_pos hk3]
          exact ⟨by omega, fin _ _ e2, by omega⟩
      · rename_i hk3
        split at h
        · rename_i hk4
          cases hd : r.drop c0 with
          | nil => rw [hd] at h; cases h
          | cons x t =>
            rw [hd] at h
            simp only [Option.some.injEq, Prod.mk.injEq] at h
            obtain ⟨rfl, rfl, rfl, rfl⟩ := h
            have hx := hbd x (by rw [hd]; simp)
            have hlen : (r.drop c0).length = t.length + 1 := by rw [hd]; rfl
            rw [List.length_drop] at hlen
            rw [if_neg hk3, if_pos hk4, show x % 256 = x by omega]
            exact ⟨by omega, fin _ _ (by rw [hd]; rfl), by show 0 ≤ _; omega⟩
        · rename_i hk4
          simp only [Option.some.injEq, Prod.mk.injEq] at h
          obtain ⟨rfl, rfl, rfl, rfl⟩ := h
          rw [if_neg hk3, if_neg hk4, List.append_nil]
          exact ⟨cl, hr, by show 0 ≤ _; omega⟩
def tripU (at_ : Nat) : Option (Int × Nat) → Int × Int × Bool
  | none => (0, 0, false)
  | some (n, c) => (n, ((at_ + c : Nat) : Int), true)
def tripT (at_ : Nat) : Option (ByteArray × Nat) → ByteArray × Int × Bool
  | none => (⟨#[]⟩, 0, false)
  | some (s, c) => (s, ((at_ + c : Nat) : Int), true)
theorem grp_bd (i : Nat) (hi : i ≤ 2) (y v : Int) (hy0 : 0 ≤ y) (hy1 : y ≤ 127) (h0 : 0 ≤ v) (h1 : v < 128 ^ i) : 0 ≤ v + y * 128 ^ i ∧ v + y * 128 ^ i < 128 ^ (i + 1) ∧ v + y * 128 ^ i ≤ 2097151 ∧ 0 ≤ y * 128 ^ i ∧ y * 128 ^ i ≤ 2097151 := by
  match i, hi with
  | 0, _ => simp only [Int.pow_zero, Int.pow_succ] at *; omega
  | 1, _ => simp only [Int.pow_zero, Int.pow_succ] at *; omega
  | 2, _ => simp only [Int.pow_zero, Int.pow_succ] at *; omega
theorem or_grp (i : Nat) (hi : i ≤ 2) (y v : Int) (hy0 : 0 ≤ y) (hy1 : y ≤ 127) (h0 : 0 ≤ v) (h1 : v < 128 ^ i) : Go.bits .or .i64 v (y * 128 ^ i) = v + y * 128 ^ i := by
  have b := grp_bd i hi y v hy0 hy1 h0 h1
  rw [or_comm_i64 _ _ h0 (by omega) b.2.2.2.1 (by omega)]
  have e : (128 : Int) ^ i = 2 ^ (7 * i) := by rw [Int.pow_mul]; rfl
  rw [e] at h1 b ⊢
  rw [or_add (7 * i) y v hy0 (by have : ((2 ^ 62 : Nat) : Int) = 4611686018427387904 := by decide
                                 omega) h0 h1 (by omega)]
  omega
theorem pow256 (i : Nat) (hi : i ≤ 6) : (256 : Int) ^ i ≤ 281474976710656 := by
  match i, hi with
  | 0, _ => decide
  | 1, _ => decide
  | 2, _ => decide
  | 3, _ => decide
  | 4, _ => decide
  | 5, _ => decide
  | 6, _ => decide
theorem pow256_7 (i : Nat) (hi : i ≤ 7) : (256 : Int) ^ i ≤ 256 ^ 7 := by
  by_cases h : i = 7
  · rw [h]; exact Int.le_refl _
  · exact Int.le_trans (pow256 i (by omega)) (by decide)
theorem foldB_cons (v x : Int) (l : List Int) : foldB v (x :: l) = foldB (v * 256 + x) l := rfl
/-- The body of bytes behind which their sum stands, if it does. -/
def getSumM (b : List Int) : List Int × Bool :=
  if b.length < 4 then ([], false) else if b.drop (b.length - 4) = sum4 (crcM (b.take (b.length - 4))) then (b.take (b.length - 4), true) else ([], false)
theorem strOf_eq {a b : List Int} (ha : ∀ x ∈ a, 0 ≤ x ∧ x ≤ 255) (hb : ∀ x ∈ b, 0 ≤ x ∧ x ≤ 255) : (strOfNums a).toList = (strOfNums b).toList ↔ a = b := by
  rw [← bytesOf_inj, bytesOf_strOf a ha, bytesOf_strOf b hb]
theorem fold_sum4 (c : Int) (h0 : 0 ≤ c) (h1 : c < 4294967296) : foldB 0 (sum4 c) = c := by
  simp only [foldB, sum4, List.foldl_cons, List.foldl_nil]; omega
theorem sum4_fold {l : List Int} (hl : l.length = 4) (hb : ∀ b ∈ l, 0 ≤ b ∧ b ≤ 255) : sum4 (foldB 0 l) = l := by
  match l, hl with
  | [x, y, z, w], _ =>
    have h1 := hb x (by simp)
    have h2 := hb y (by simp)
    have h3 := hb z (by simp)
    have h4 := hb w (by simp)
    simp only [foldB, sum4, List.foldl_cons, List.foldl_nil]
    congr 1
    · omega
    · congr 1
      · omega
      · congr 1
        · omega
        · congr 1; omega
theorem getVarM_put (n : Int) (h0 : -1000000000000000 ≤ n) (h1 : n ≤ 1000000000000000) (r : List Int) : getVarM (varM n ++ r) = some (n, (varM n).length) := by
  have e : clampV n = n := by unfold clampV; rw [if_neg (by omega), if_neg (by omega)]
  unfold varM
  rw [e]
  by_cases c : n ≥ 0
  · rw [if_pos c]
    have l7 := beM_len 7 n
    have fb := foldB_be 7 n c (by omega)
    have hx : inB (128 + ((beM 7 n).length : Int)) 120 135 = true := inB_iff.2 (by omega)
    have hlen : lenOf (128 + ((beM 7 n).length : Int)) = ((beM 7 n).length : Int) := by unfold lenOf; rw [if_neg (by omega)]; omega
    have hd : decide (128 + ((beM 7 n).length : Int) < 128) = false := decide_eq_false (by omega)
    rw [List.cons_append]
    simp only [getVarM]
    rw [if_pos hx, hlen, hd, if_neg (by rw [List.length_append]; omega), Int.toNat_natCast, List.take_left]
    have ff : flipIf false (beM 7 n) = beM 7 n := rfl
    have nf : negIf false n = n := rfl
    rw [ff, fb, if_pos rfl, nf, if_pos (inB_iff.2 ⟨h0, h1⟩), List.length_cons, Nat.add_comm]
  · rw [if_neg c]
    have l7 := beM_len 7 (-1 - n)
    have fb := foldB_be 7 (-1 - n) (by omega) (by omega)
    have hx : inB (127 - ((beM 7 (-1 - n)).length : Int)) 120 135 = true := inB_iff.2 (by omega)
    have hlen : lenOf (127 - ((beM 7 (-1 - n)).length : Int)) = ((beM 7 (-1 - n)).length : Int) := by unfold lenOf; rw [if_pos (by omega)]; omega
    have hd : decide (127 - ((beM 7 (-1 - n)).length : Int) < 128) = true := decide_eq_true (by omega)
    have ff : flipIf true ((beM 7 (-1 - n)).map fun b => 255 - b) = beM 7 (-1 - n) := flipIf_flipIf true (beM 7 (-1 - n))
    have ht : (((beM 7 (-1 - n)).map fun b => 255 - b) ++ r).take (beM 7 (-1 - n)).length = (beM 7 (-1 - n)).map fun b => 255 - b := by
      have := List.take_left (l₁ := (beM 7 (-1 - n)).map fun b => 255 - b) (l₂ := r)
      rwa [List.length_map] at this
    have nf : negIf true (-1 - n) = n := by
      have : negIf true (-1 - n) = -1 - (-1 - n) := rfl
      omega
    rw [List.cons_append]
    simp only [getVarM]
    rw [if_pos hx, hlen, hd, if_neg (by rw [List.length_append, List.length_map]; omega), Int.toNat_natCast, ht, ff, fb, if_pos rfl, nf, if_pos (inB_iff.2 ⟨h0, h1⟩), List.length_cons, List.length_map, Nat.add_comm]
theorem strOf_bytesOf (s : ByteArray) : strOfNums (bytesOf s) = s := by
  have h : bytesOf (strOfNums (bytesOf s)) = bytesOf s := bytesOf_strOf _ (bytesOf_bytes s)
  have h2 := bytesOf_inj.1 h
  apply ByteArray.ext
  apply Array.toList_inj.1
  rw [ByteArray.toList_eq, ByteArray.toList_eq] at h2
  exact h2
theorem getTextM_put (s : ByteArray) (hs : s.size ≤ 1000000) (r : List Int) : getTextM (txtM s ++ r) = some (s, (txtM s).length) := by
  have hl := bytesOf_length s
  unfold getTextM txtM
  rw [List.append_assoc, getUM_put s.size (by omega) (by omega)]
  simp only
  rw [if_neg (by simp only [List.length_append]; omega), List.drop_left, Int.toNat_natCast]
  have e : (bytesOf s ++ r).take s.size = bytesOf s := by
    have := List.take_left (l₁ := bytesOf s) (l₂ := r)
    rwa [hl] at this
  rw [e, strOf_bytesOf, List.length_append, hl]
theorem valueM_put (k n : Int) (s : ByteArray) (ok : valOkM k n (bytesOf s) = true) (r : List Int) : valueM (valM k n s ++ r) = some (k, n, s, (valM k n s).length) := by
  have emp : bytesOf s = [] → s = ⟨#[]⟩ := by
    intro h
    rw [← strOf_bytesOf s, h]; rfl
  unfold valOkM at ok
  by_cases k0 : k = 0
  · rw [if_pos k0] at ok
    by_cases hn : n = 0
    · rw [if_pos hn] at ok
      have hs := emp (of_decide_eq_true ok)
      subst k0 hn hs
      unfold valueM valM
      rw [if_neg (by omega), if_neg (by omega), if_neg (by omega), List.append_nil, getUM_put 0 (by omega) (by omega)]
      rfl
    · rw [if_neg hn] at ok; cases ok
  rw [if_neg k0] at ok
  have big : ∀ lo hi : Int, -1000000000000000 ≤ lo → hi ≤ 1000000000000000 → (k = 1 ∨ k = 2) → (if inB n lo hi = true then decide (bytesOf s = []) else false) = true → valueM (valM k n s ++ r) = some (k, n, s, (valM k n s).length) := by
    intro lo hi h1 h2 hk h
    by_cases hb : inB n lo hi = true
    · rw [if_pos hb] at h
      have hb2 := inB_iff.1 hb
      have hs := emp (of_decide_eq_true h)
      subst hs
      unfold valueM valM
      rw [if_pos hk, List.append_assoc, getUM_put k (by omega) (by omega)]
      simp only
      rw [if_pos hk, List.drop_left, getVarM_put n (by omega) (by omega), List.length_append]
    · rw [if_neg hb] at h; cases h
  by_cases k1 : k = 1
  · rw [if_pos k1] at ok
    exact big _ _ (by omega) (by omega) (Or.inl k1) ok
  rw [if_neg k1] at ok
  by_cases k2 : k = 2
  · rw [if_pos k2] at ok
    exact big _ _ (by omega) (by omega) (Or.inr k2) ok
  rw [if_neg k2] at ok
  have k12 : ¬ (k = 1 ∨ k = 2) := fun h => h.elim k1 k2
  by_cases k3 : k = 3
  · rw [if_pos k3] at ok
    by_cases hn : n = 0
    · rw [if_pos hn] at ok
      have hs := of_decide_eq_true ok
      rw [bytesOf_length] at hs
      unfold valueM valM
      rw [if_neg k12, if_pos k3, List.append_assoc, getUM_put k (by omega) (by omega)]
      simp only
      rw [if_neg k12, if_pos k3, List.drop_left, getTextM_put s (by omega), List.length_append, hn]
    · rw [if_neg hn] at ok; cases ok
  rw [if_neg k3] at ok
  by_cases k4 : k = 4
  · rw [if_pos k4] at ok
    by_cases hb : inB n 0 1 = true
    · rw [if_pos hb] at ok
      have hb2 := inB_iff.1 hb
      have hs := emp (of_decide_eq_true ok)
      subst hs
      unfold valueM valM
      rw [if_neg k12, if_neg k3, if_pos k4, List.append_assoc, getUM_put k (by omega) (by omega)]
      simp only
      rw [if_neg k12, if_neg k3, if_pos k4, List.drop_left, show n % 256 = n by omega, List.length_append]
      rfl
    · rw [if_neg hb] at ok; cases ok
  · rw [if_neg k4] at ok; cases ok
theorem crcStep_inj {x y : Nat} (hx : x < 2 ^ 32) (hy : y < 2 ^ 32) (h : crcStep x = crcStep y) : x = y := by
  have top : ∀ z, z < 2 ^ 32 → (crcStep z).testBit 31 = decide (z % 2 = 1) := by
    intro z hz
    have hh : (z / 2).testBit 31 = false := Nat.testBit_lt_two_pow (by omega)
    unfold crcStep
    by_cases c : z % 2 = 1
    · rw [if_pos c, Nat.testBit_xor, hh, decide_eq_true c]; rfl
    · rw [if_neg c, hh, decide_eq_false c]
  have t := congrArg (fun z => z.testBit 31) h
  simp only [top x hx, top y hy, decide_eq_decide] at t
  unfold crcStep at h
  by_cases c : x % 2 = 1
  · rw [if_pos c, if_pos (t.1 c)] at h
    have h2 := congrArg (fun z => z ^^^ 2197175160) h
    simp only [Nat.xor_assoc, Nat.xor_self, Nat.xor_zero] at h2
    have := t.1 c
    omega
  · have c2 : ¬ y % 2 = 1 := fun g => c (t.2 g)
    rw [if_neg c, if_neg c2] at h
    omega
theorem crcN_inj : ∀ (n : Nat) {x y : Nat}, x < 2 ^ 32 → y < 2 ^ 32 → crcN n x = crcN n y → x = y
  | 0, _, _, _, _, h => h
  | n + 1, _, _, hx, hy, h => crcStep_inj hx hy (crcN_inj n (crcStep_lt hx) (crcStep_lt hy) h)
theorem xor_lt {x : Nat} (hx : x < 2 ^ 32) {b : Int} (hb : b ≤ 255) : x ^^^ b.toNat < 2 ^ 32 := Nat.xor_lt_two_pow hx (by omega)
theorem xor_cancel {a b c : Nat} (h : a ^^^ b = a ^^^ c) : b = c := by
  have := congrArg (fun z => a ^^^ z) h
  simpa only [← Nat.xor_assoc, Nat.xor_self, Nat.zero_xor] using this
theorem crcByte_inj_state {x y : Nat} (hx : x < 2 ^ 32) (hy : y < 2 ^ 32) {b : Int} (hb : b ≤ 255) (h : crcByte x b = crcByte y b) : x = y := by
  have := crcN_inj 8 (xor_lt hx hb) (xor_lt hy hb) h
  rw [Nat.xor_comm x, Nat.xor_comm y] at this
  exact xor_cancel this
theorem crcByte_inj_byte {x : Nat} (hx : x < 2 ^ 32) {b c : Int} (hb0 : 0 ≤ b) (hb : b ≤ 255) (hc0 : 0 ≤ c) (hc : c ≤ 255) (h : crcByte x b = crcByte x c) : b = c := by
  have := xor_cancel (crcN_inj 8 (xor_lt hx hb) (xor_lt hx hc) h)
  omega
theorem crcFold_inj : ∀ (l : List Int) {x y : Nat}, x < 2 ^ 32 → y < 2 ^ 32 → (∀ b ∈ l, b ≤ 255) → crcFold x l = crcFold y l → x = y
  | [], _, _, _, _, _, h => h
  | b :: r, _, _, hx, hy, hl, h =>
    have hb := hl b List.mem_cons_self
    crcByte_inj_state hx hy hb (crcFold_inj r (crcByte_lt hx hb) (crcByte_lt hy hb) (fun c hc => hl c (List.mem_cons_of_mem _ hc)) h)
theorem crcM_turn (a d : List Int) (b c : Int) (ha : ∀ x ∈ a, x ≤ 255) (hd : ∀ x ∈ d, x ≤ 255) (hb0 : 0 ≤ b) (hb : b ≤ 255) (hc0 : 0 ≤ c) (hc : c ≤ 255) (h : crcM (a ++ b :: d) = crcM (a ++ c :: d)) : b = c := by
  unfold crcM at h
  have h1 : crcFold 4294967295 (a ++ b :: d) ^^^ 4294967295 = crcFold 4294967295 (a ++ c :: d) ^^^ 4294967295 := by exact_mod_cast h
  rw [Nat.xor_comm, Nat.xor_comm _ 4294967295] at h1
  have h2 := xor_cancel h1
  have e : ∀ z : Int, crcFold 4294967295 (a ++ z :: d) = crcFold (crcByte (crcFold 4294967295 a) z) d := by
    intro z
    unfold crcFold
    rw [List.foldl_append, List.foldl_cons]
  rw [e, e] at h2
  have hx : crcFold 4294967295 a < 2 ^ 32 := crcFold_lt a _ (by decide) ha
  exact crcByte_inj_byte hx hb0 hb hc0 hc (crcFold_inj d (crcByte_lt hx hb) (crcByte_lt hx hc) hd h2)
/-- Bytes with their sum, one byte turned: the sum is wrong. -/
theorem getSumM_turn (body : List Int) (p : Nat) (c z : Int) (hb : ∀ x ∈ body, 0 ≤ x ∧ x ≤ 255) (hz : (body ++ sum4 (crcM body))[p]? = some z) (hc0 : 0 ≤ c) (hc : c ≤ 255) (hne : c ≠ z) : getSumM ((body ++ sum4 (crcM body)).set p c) = ([], false) := by
  have l4 : (sum4 (crcM body)).length = 4 := rfl
  have hp : p < body.length + 4 := by
    have := (List.getElem?_eq_some_iff.1 hz).1
    rw [List.length_append, l4] at this
    exact this
  have hl : ((body ++ sum4 (crcM body)).set p c).length - 4 = body.length := by rw [List.length_set, List.length_append, l4]; omega
  unfold getSumM
  rw [if_neg (by rw [List.length_set, List.length_append, l4]; omega), hl]
  rw [if_neg]
  intro h
  by_cases c1 : p < body.length
  · rw [List.drop_set_of_lt c1, List.drop_left] at h
    have e1 : ((body ++ sum4 (crcM body)).set p c).take body.length = body.set p c := by
      rw [List.set_append_left _ _ c1]
      have := List.take_left (l₁ := body.set p c) (l₂ := sum4 (crcM body))
      rwa [List.length_set] at this
    rw [e1] at h
    have hz2 : body[p]? = some z := by rwa [List.getElem?_append_left c1] at hz
    have hz3 : body[p] = z := by rw [List.getElem?_eq_getElem c1, Option.some.injEq] at hz2; exact hz2
    have b1 : body = body.take p ++ z :: body.drop (p + 1) := by
      rw [← hz3, ← List.drop_eq_getElem_cons c1, List.take_append_drop]
    have b2 : body.set p c = body.take p ++ c :: body.drop (p + 1) := List.set_eq_take_append_cons_drop .. |>.trans (if_pos c1)
    have bz := hb z (List.mem_of_getElem? hz2)
    have hbc : ∀ x ∈ body.set p c, x ≤ 255 := by
      intro x hx
      rcases List.mem_or_eq_of_mem_set hx with hx | hx
      · exact (hb x hx).2
      · rw [hx]; exact hc
    have k1 := crcM_bd body (fun x hx => (hb x hx).2)
    have k2 := crcM_bd (body.set p c) hbc
    have k3 : crcM body = crcM (body.set p c) := by
      rw [← fold_sum4 _ k1.1 k1.2, ← fold_sum4 _ k2.1 k2.2, ← h, fold_sum4 _ k1.1 k1.2]
    rw [b2] at k3
    have k4 : crcM (body.take p ++ z :: body.drop (p + 1)) = crcM (body.take p ++ c :: body.drop (p + 1)) := by rw [← b1]; exact k3
    exact hne (crcM_turn _ _ z c (fun x hx => (hb x (List.mem_of_mem_take hx)).2) (fun x hx => (hb x (List.mem_of_mem_drop hx)).2) bz.1 bz.2 hc0 hc k4).symm
  · rw [List.take_set_of_le (by omega), List.take_left] at h
    have e1 : ((body ++ sum4 (crcM body)).set p c)[p]? = some c := List.getElem?_set_self (by rw [List.length_append, l4]; exact hp)
    have e2 : (((body ++ sum4 (crcM body)).set p c).drop body.length)[p - body.length]? = some c := by
      rw [List.getElem?_drop, show body.length + (p - body.length) = p by omega]
      exact e1
    rw [h] at e2
    rw [List.getElem?_append_right (by omega), e2, Option.some.injEq] at hz
    exact hne hz
theorem shl1_u8 (y : Int) (h0 : 0 ≤ y) (h1 : y ≤ 7) : ∃ q : Nat, 0 < q ∧ q < 256 ∧ shl .u8 1 y = (q : Int) := by
  have h : y = 0 ∨ y = 1 ∨ y = 2 ∨ y = 3 ∨ y = 4 ∨ y = 5 ∨ y = 6 ∨ y = 7 := by omega
  rcases h with e | e | e | e | e | e | e | e
  · exact ⟨1, by decide, by decide, by rw [e]; decide⟩
  · exact ⟨2, by decide, by decide, by rw [e]; decide⟩
  · exact ⟨4, by decide, by decide, by rw [e]; decide⟩
  · exact ⟨8, by decide, by decide, by rw [e]; decide⟩
  · exact ⟨16, by decide, by decide, by rw [e]; decide⟩
  · exact ⟨32, by decide, by decide, by rw [e]; decide⟩
  · exact ⟨64, by decide, by decide, by rw [e]; decide⟩
  · exact ⟨128, by decide, by decide, by rw [e]; decide⟩
theorem turned (c : Int) (q : Nat) (h0 : 0 ≤ c) (h1 : c ≤ 255) (q0 : 0 < q) (q1 : q < 256) : 0 ≤ Go.bits .xor .u8 c (q : Int) ∧ Go.bits .xor .u8 c (q : Int) ≤ 255 ∧ Go.bits .xor .u8 c (q : Int) ≠ c := by
  obtain ⟨n, rfl⟩ := Int.eq_ofNat_of_zero_le h0
  have hn : n < 2 ^ 8 := by omega
  rw [xor_u8 n q hn q1]
  have := Nat.xor_lt_two_pow hn (show q < 2 ^ 8 from q1)
  refine ⟨by omega, by omega, fun e => ?_⟩
  have e2 : n ^^^ q = n ^^^ 0 := by rw [Nat.xor_zero]; exact_mod_cast e
  have := xor_cancel e2
  omega
end Go.PV.T
