/- An interpreter over lists and numbers, and that the program does what it does (part C). No condition beyond those in each statement. -/
import Derived.Test.YthadcmcdbcfjaaaGreatDoorPvLcB
import Derived.LoopN
import Derived.Lib.SplitLaws
import Derived.Lib.Join
import Derived.Below
import Derived.SizedLaws
import Derived.Deep.Slices
import Derived.DataReads
set_option linter.unusedVariables false
set_option linter.unusedSimpArgs false
namespace Go.PV
variable {Pg : Program}
def It.site : It → Option Site
 | .no => none
 | .look id j _ => some (.cell id j)
 | .own id j _ _ => some (.cell id j)
 | .box id _ => some (.box id)
 | .bown id j _ => some (.cell id j)
 | .blk id j _ => some (.cell id j)
def It.owns : It → Bool
 | .own .. | .box .. | .bown .. => true
 | _ => false
theorem Rep.ro_nil' {w : World} {Z : Fp} {s : S} {x : s.T} {v : Value} {F : Fp} (h : Rep w Z s 0 x v F) : F = nil' := by
 cases s with
 | row cs => exact Rep.ro_nil h
 | int k => exact h.2
 | bool => exact h.2
 | str => exact h.2
theorem Rep.flat_nil {w : World} {Z : Fp} {s : S} {d : Nat} {x : s.T} {v : Value} {F : Fp} (hs : s.isRow = false) (h : Rep w Z s d x v F) : F = nil' := by
 cases s with
 | row cs => cases hs
 | int k => exact h.2
 | bool => exact h.2
 | str => exact h.2
def Hole (c : Cf) (id j : Nat) (k : CV) (d : Nat) (rv : Value) (st : Way) (x : CV) (u : Value) (L : Fp) : Prop :=
 ∀ (w' : World) (Z' : Fp) (y : x.s.T) (F2 : Fp) (z : k.s.T), setP k.s k.x st ⟨x.s, y⟩ = some z → (∀ b, c.O b = some (.cell id j) ∧ ¬ L b → w'.heap[b]? = c.w.heap[b]?) → (∀ b, c.Z b → Z' b) → (∀ b, c.Z b → w'.heap[b]? = c.w.heap[b]?) →
  Rep w' Z' x.s (d - st.length) y u F2 → (∀ b, F2 b → ¬ (c.O b = some (.cell id j) ∧ ¬ L b)) → Rep w' Z' k.s d z rv (fun b => (c.O b = some (.cell id j) ∧ ¬ L b) ∨ F2 b)
structure ItFp (c : Cf) (e : Ent) (it : It) (x : Option CV) (u : Value) (L F : Fp) : Prop where
 sub : ∀ b, F b → L b
 ent : EntIn c.w (fun b => c.Z b ∨ (L b ∧ ¬ F b)) e x u F
 site : ∀ b, L b → ∃ s, it.site = some s ∧ c.O b = some s
 ro : it.owns = false → ∀ b, ¬ F b
 frozen : frozenIt c.rt it = true → it.owns = false → ∀ b, ¬ L b
 whole : ∀ id j st pc, it = .own id j st pc → st = [] → ∀ b, c.O b = some (.cell id j) → L b
 wholeB : ∀ id j pc, it = .bown id j pc → ∀ b, c.O b = some (.cell id j) → L b
 wholeX : ∀ id n, it = .box id n → ∀ b, c.O b = some (.box id) → L b
 hole : ∀ id j st pc, it = .own id j st pc → st ≠ [] → ∀ r y d k rv xx, c.rt id = some r → r.cells[j]? = some y → y.c = .mk d k → rootVal c.w r (c.γ id) j = some rv → x = some xx → Hole c id j k d rv st xx u L
theorem item_fp {c : Cf} (hc : c.Inv) {e : Ent} {it : It} {x : Option CV} {u : Value} (h : ItIn c e it x u) : ∃ L F : Fp, ItFp c e it x u L F := by
 have nz : (fun b => c.Z b ∨ ((nil' : Fp) b ∧ ¬ (nil' : Fp) b)) = c.Z := by funext b; simp [nil']
 have ro : ∀ {L : Fp}, (fun b => c.Z b ∨ L b) = (fun b => c.Z b ∨ (L b ∧ ¬ (nil' : Fp) b)) := fun {L} => by funext b; simp [nil']
 cases it with
 | no =>
  cases e with
  | val pc =>
   cases x with
   | some x =>
    exact ⟨nil', nil', fun _ h => h, by rw [nz]; exact h, fun _ h => h.elim, fun _ _ h => h, fun _ _ _ h => h, fun _ _ _ _ h => (by cases h), fun _ _ _ h => (by cases h), fun _ _ h => (by cases h), fun _ _ _ _ h => (by cases h)⟩
   | none => exact h.elim
  | _ => exact h.elim
 | look id j st =>
  cases e with
  | val pc =>
   cases x with
   | some x =>
    obtain ⟨h1, h2, y, d, k, F0, h3, h4, h5, h6⟩ := h
    refine ⟨F0, nil', fun _ h => h.elim, ⟨h1, ?_⟩, fun b hb => ⟨_, rfl, h6 b hb⟩, fun _ _ h => h, fun hf _ b hb => ?_, fun _ _ _ _ h => (by cases h), fun _ _ _ h => (by cases h), fun _ _ h => (by cases h), fun _ _ _ _ h => (by cases h)⟩
    ·rw [h2, ← ro]; exact h5.toRo
    ·simp only [frozenIt, h3, h4, Nat.ble_eq] at hf
     rw [show d - st.length = 0 by omega] at h5
     rw [h5.ro_nil'] at hb
     exact hb
   | none => exact h.elim
  | _ => exact h.elim
 | own id j st pc' =>
  cases e with
  | val pc =>
   cases x with
   | some x =>
    obtain ⟨rfl, h1, h2, h3, h4, h5, r, y, d, k, rv, g1, g2, g3, g4, g5, g6, g7⟩ := h
    rw [cellAt_eq g1 g2] at h4
    simp only [g3] at h4
    obtain ⟨rv', e1, e2⟩ := (hc.root id r g1).cell j y g2
    rw [g4] at e1
    obtain rfl := Option.some.inj e1
    rw [g3] at e2
    have e2 : Rep c.w c.Z k.s d k.x rv (fun b => c.O b = some (.cell id j)) := e2
    by_cases hst : st = []
    ·subst hst
     simp only [getP_nil, Option.some.injEq] at g6
     subst g6
     simp only [pv, Option.some.injEq] at g7
     subst g7
     obtain ⟨F, f1, f2⟩ := Rep.weaken pc'.d (by simpa using h4) e2
     exact ⟨_, F, f1, ⟨h1, f2⟩, fun b hb => ⟨_, rfl, hb⟩, fun h => (by cases h), fun _ h => (by cases h), fun id' j' st' pc' he _ b hb => (by cases he; exact hb), fun _ _ _ h => (by cases h), fun _ _ h => (by cases h), fun _ _ _ _ he hne => by cases he; exact absurd rfl hne⟩
    ·obtain ⟨c1, v', F', b, o, q1, q2, q3, q4, q5, q6, q7, ⟨ca, E, fz, q8⟩, q9, q10⟩ := path_write e2 g5 hst (by omega)
     rw [g6] at q1
     obtain rfl := Option.some.inj q1
     have : v' = u := by
      cases st with
      | nil => exact absurd rfl hst
      | cons a t => simp only [pv, q2, q6, Option.some.injEq] at g7; exact g7
     subst this
     obtain ⟨F, f1, f2⟩ := Rep.weaken pc'.d (by omega) q9
     refine ⟨F', F, f1, ⟨h1, f2⟩, fun b hb => ⟨_, rfl, q5 b hb⟩, fun h => (by cases h), fun _ h => (by cases h), fun _ _ _ _ he hs => (by cases he; exact absurd hs hst), fun _ _ _ h => (by cases h), fun _ _ h => (by cases h), fun id' j' st' pc'' he _ r' y' d' k' rv' xx k1 k2 k3 k4 k5 => ?_⟩
     cases he
     rw [g1] at k1
     obtain rfl := Option.some.inj k1
     rw [g2] at k2
     obtain rfl := Option.some.inj k2
     rw [g3] at k3
     simp only [Cell.mk.injEq] at k3
     obtain ⟨rfl, rfl⟩ := k3
     rw [g4] at k4
     obtain rfl := Option.some.inj k4
     obtain rfl := Option.some.inj k5
     intro w' Z' y2 F2 z hz hout hzz hzh hrep hdj
     exact q10 w' Z' y2 v' F2 z hz (SameBut.refl q8 q6 (hout b ⟨q3, q4⟩)) (fun b' hb => hout b' ⟨hb.1, hb.2.1⟩) hzz hzh hrep hdj
   | none => exact h.elim
  | _ => exact h.elim
 | box id n =>
  cases e with
  | box m =>
   cases x with
   | none =>
    obtain ⟨rfl, r, b, h1, h2, h3, h4, h5⟩ := h
    obtain ⟨b', ca, E, fz, f1, f2, f3, f4, f5⟩ := (hc.root id r h1).box h2
    rw [h4, h5] at f1
    obtain rfl : b = b' := by simpa using f1
    refine ⟨_, fun b' => b' = b, fun _ h => h, ⟨b, h5, rfl⟩, fun b' hb => ⟨_, rfl, (f5 b').2 hb⟩, fun h => (by cases h), fun _ h => (by cases h), fun _ _ _ _ h => (by cases h), fun _ _ _ h => (by cases h), fun id' n' he b' hb => ?_, fun _ _ _ _ h => (by cases h)⟩
    cases he
    exact (f5 b').1 hb
   | some x => exact h.elim
  | _ => exact h.elim
 | bown id j pc' =>
  cases e with
  | cell pc =>
   cases x with
   | some x =>
    obtain ⟨rfl, h1, h2, r, y, d, g1, g2, g3, g4, g5, g6⟩ := h
    obtain ⟨rv', e1, e2⟩ := (hc.root id r g1).cell j y g3
    rw [g5] at e1
    obtain rfl := Option.some.inj e1
    rw [g4] at e2
    have e2 : Rep c.w c.Z x.s d x.x u (fun b => c.O b = some (.cell id j)) := e2
    have key : ∃ F : Fp, (∀ b, F b → c.O b = some (.cell id j)) ∧ Rep c.w (fun b => c.Z b ∨ (c.O b = some (.cell id j) ∧ ¬ F b)) x.s pc'.d x.x u F := by
     rcases g6 with g6 | g6
     ·exact Rep.weaken pc'.d g6 e2
     ·have hr : x.s.isRow = false := by rw [h2]; exact g6
      have hd : x.s.depth = 0 := by cases hx : x.s <;> first | rfl | (rw [hx] at hr; cases hr)
      exact ⟨_, fun b hb => hb, Rep.deep (by omega) (by omega) e2⟩
    obtain ⟨F, f1, f2⟩ := key
    exact ⟨_, F, f1, ⟨h2, by rw [h1]; exact f2⟩, fun b hb => ⟨_, rfl, hb⟩, fun h => (by cases h), fun _ h => (by cases h), fun _ _ _ _ h => (by cases h), fun id' j' pc'' he b hb => (by cases he; exact hb), fun _ _ h => (by cases h), fun _ _ _ _ h => (by cases h)⟩
   | none => exact h.elim
  | _ => exact h.elim
 | blk id j pc' =>
  cases e with
  | cell pc =>
   cases x with
   | some x =>
    obtain ⟨rfl, h1, h2, r, y, g1, g2, g3, g4, g5⟩ := h
    obtain ⟨rv', e1, e2⟩ := (hc.root id r g1).cell j y g3
    rw [g4] at e1
    obtain rfl := Option.some.inj e1
    rcases g5 with g5 | ⟨d, g5⟩
    ·rw [g5] at e2
     exact ⟨nil', nil', fun _ h => h, by rw [nz]; exact ⟨h2, by rw [h1]; exact e2.1⟩, fun _ h => h.elim, fun _ _ h => h, fun _ _ _ h => h, fun _ _ _ _ h => (by cases h), fun _ _ _ h => (by cases h), fun _ _ h => (by cases h), fun _ _ _ _ h => (by cases h)⟩
    ·rw [g5] at e2
     have e2 : Rep c.w c.Z x.s d x.x u (fun b => c.O b = some (.cell id j)) := e2
     refine ⟨_, nil', fun _ h => h.elim, ⟨h2, by rw [h1, ← ro]; exact e2.toRo⟩, fun b hb => ⟨_, rfl, hb⟩, fun _ _ h => h, fun hf _ b hb => ?_, fun _ _ _ _ h => (by cases h), fun _ _ _ h => (by cases h), fun _ _ h => (by cases h), fun _ _ _ _ h => (by cases h)⟩
     simp only [frozenIt, cellAt_eq g1 g3, g5, Nat.ble_eq] at hf
     obtain rfl : d = 0 := by omega
     have := congrFun e2.ro_nil' b
     simp only [nil', eq_iff_iff, iff_false] at this
     exact this hb
   | none => exact h.elim
  | _ => exact h.elim
theorem memNN_mem {a : Nat × Nat} : ∀ {l : List (Nat × Nat)}, memNN a l = true ↔ a ∈ l
 | [] => by simp [memNN]
 | b :: l => by
  simp only [memNN, List.mem_cons]
  cases h : (Nat.beq a.1 b.1 && Nat.beq a.2 b.2) with
  | true =>
   simp only [cond_true, true_iff]
   simp only [Bool.and_eq_true, Nat.beq_eq] at h
   exact .inl (Prod.ext h.1 h.2)
  | false =>
   simp only [cond_false]
   rw [memNN_mem]
   constructor
   ·exact .inr
   ·rintro (rfl | h2)
    ·simp [Nat.beq_eq] at h
    ·exact h2
theorem apart_nodup : ∀ {es bs : List (Nat × Nat)}, apartOk es bs = true → es.Nodup ∧ ∀ a ∈ es, a ∉ bs
 | [], _, _ => ⟨List.nodup_nil, fun a ha => by simp at ha⟩
 | a :: l, bs, h => by
  simp only [apartOk, Bool.and_eq_true, Bool.not_eq_true'] at h
  obtain ⟨h1, h2⟩ := apart_nodup h.2
  refine ⟨List.nodup_cons.2 ⟨fun hm => by rw [memNN_mem.2 hm] at h; exact absurd h.1.1 (by simp), h1⟩, fun x hx => ?_⟩
  simp only [List.mem_cons] at hx
  rcases hx with rfl | hx
  ·intro hm; rw [memNN_mem.2 hm] at h; exact absurd h.1.2 (by simp)
  ·exact h2 x hx
theorem flat_uniq {α β : Type} {f : α → List β} : ∀ {l : List α}, (l.flatMap f).Nodup → ∀ (i j : Nat) x y b, l[i]? = some x → l[j]? = some y → b ∈ f x → b ∈ f y → i = j
 | [], _, i, _, _, _, _, hi, _, _, _ => by simp at hi
 | a :: l, h, i, j, x, y, b, hi, hj, hx, hy => by
  rw [List.flatMap_cons, List.nodup_append] at h
  obtain ⟨_, h2, h3⟩ := h
  cases i with
  | zero =>
   cases j with
   | zero => rfl
   | succ j =>
    simp only [List.getElem?_cons_zero, Option.some.injEq] at hi
    simp only [List.getElem?_cons_succ] at hj
    subst hi
    exact absurd rfl (h3 b hx b (List.mem_flatMap.2 ⟨y, List.mem_of_getElem? hj, hy⟩))
  | succ i =>
   cases j with
   | zero =>
    simp only [List.getElem?_cons_zero, Option.some.injEq] at hj
    simp only [List.getElem?_cons_succ] at hi
    subst hj
    exact absurd rfl (h3 b hy b (List.mem_flatMap.2 ⟨x, List.mem_of_getElem? hi, hx⟩))
   | succ j =>
    simp only [List.getElem?_cons_succ] at hi hj
    rw [flat_uniq h2 i j x y b hi hj hx hy]
structure Lent (c : Cf) (g : Sig) (its : List It) (xs : List (Option CV)) (vs us : List Value) (L F : Nat → Fp) : Prop where
 inv : c.Inv
 flat : Flat c.w g.ps vs us
 all : All4 c (ents g.ps) its xs us
 box : BoxesOk its
 fp : ∀ (k : Nat) it e x u, its[k]? = some it → (ents g.ps)[k]? = some e → xs[k]? = some x → us[k]? = some u → ItFp c e it x u (L k) (F k)
 fin : ∀ k, its.length ≤ k → ∀ b, ¬ L k b ∧ ¬ F k b
 one : ∀ (k k' : Nat) it it' s, its[k]? = some it → its[k']? = some it' → it.owns = true → it'.owns = true → it.site = some s → it'.site = some s → k = k'
 two : ∀ (k k' : Nat) it it' s, its[k]? = some it → its[k']? = some it' → it.owns = true → it'.owns = false → it.site = some s → it'.site ≠ some s
theorem lent_of {c : Cf} (hc : c.Inv) {g : Sig} {its : List It} {xs : List (Option CV)} {vs us : List Value} (hf : Flat c.w g.ps vs us) (ha : All4 c (ents g.ps) its xs us) (hb : BoxesOk its) (hap : apartOk (its.flatMap It.es) (its.flatMap It.bs) = true) : ∃ L F, Lent c g its xs vs us L F := by
 have hex : ∀ k, ∃ p : Fp × Fp, (∀ it e x u, its[k]? = some it → (ents g.ps)[k]? = some e → xs[k]? = some x → us[k]? = some u → ItFp c e it x u p.1 p.2) ∧ (its.length ≤ k → ∀ b, ¬ p.1 b ∧ ¬ p.2 b) := fun k => by
  cases hk : its[k]? with
  | none => exact ⟨(nil', nil'), fun _ _ _ _ h => (by cases h), fun _ _ => ⟨fun h => h, fun h => h⟩⟩
  | some it =>
   obtain ⟨e, x, u, h1, h2, h3, h4⟩ := ha.at k it hk
   obtain ⟨L, F, h5⟩ := item_fp hc h4
   refine ⟨(L, F), fun it' e' x' u' g1 g2 g3 g4 => ?_, fun hl => ?_⟩
   ·obtain rfl := Option.some.inj g1
    rw [h1] at g2
    obtain rfl := Option.some.inj g2
    rw [h2] at g3
    obtain rfl := Option.some.inj g3
    rw [h3] at g4
    obtain rfl := Option.some.inj g4
    exact h5
   ·have := (List.getElem?_eq_some_iff.1 hk).1
    omega
 obtain ⟨hnd, hbs⟩ := apart_nodup hap
 have boxn : ∀ k id n, its[k]? = some (It.box id n) → ∃ r, c.rt id = some r ∧ r.cells.length = n := fun k id n hk => by
  obtain ⟨e, x, u, h1, h2, h3, h4⟩ := ha.at k _ hk
  cases e with
  | box m =>
   cases x with
   | none =>
    obtain ⟨rfl, r, b, g1, g2, g3, _⟩ := h4
    exact ⟨r, g1, g3⟩
   | some _ => exact h4.elim
  | _ => exact h4.elim
 refine ⟨fun k => (Classical.choose (hex k)).1, fun k => (Classical.choose (hex k)).2, hc, hf, ha, hb, fun k it e x u h1 h2 h3 h4 => (Classical.choose_spec (hex k)).1 it e x u h1 h2 h3 h4, fun k hk => (Classical.choose_spec (hex k)).2 hk, fun k k' it it' s h1 h2 o1 o2 s1 s2 => ?_, fun k k' it it' s h1 h2 o1 o2 s1 s2 => ?_⟩
 ·have key : ∃ a, a ∈ it.es ∧ a ∈ it'.es := by
   cases it <;> cases it' <;> simp only [It.owns, It.site, It.es, Option.some.injEq, Bool.false_eq_true, reduceCtorEq] at o1 o2 s1 s2 ⊢ <;> subst s1 <;> simp only [Site.cell.injEq, Site.box.injEq, reduceCtorEq] at s2
   ·obtain ⟨rfl, rfl⟩ := s2; exact ⟨_, List.mem_singleton.2 rfl, List.mem_singleton.2 rfl⟩
   ·obtain ⟨rfl, rfl⟩ := s2; exact ⟨_, List.mem_singleton.2 rfl, List.mem_singleton.2 rfl⟩
   ·subst s2
    obtain ⟨r, e1, e2⟩ := boxn k _ _ h1
    obtain ⟨r', e3, e4⟩ := boxn k' _ _ h2
    rw [e1] at e3
    obtain rfl := Option.some.inj e3
    exact ⟨_, List.mem_singleton.2 rfl, List.mem_singleton.2 (by rw [← e2, ← e4])⟩
   ·obtain ⟨rfl, rfl⟩ := s2; exact ⟨_, List.mem_singleton.2 rfl, List.mem_singleton.2 rfl⟩
   ·obtain ⟨rfl, rfl⟩ := s2; exact ⟨_, List.mem_singleton.2 rfl, List.mem_singleton.2 rfl⟩
  obtain ⟨a, a1, a2⟩ := key
  exact flat_uniq hnd k k' it it' a h1 h2 a1 a2
 ·have key : ∃ a, a ∈ it.es ∧ a ∈ it'.bs := by
   cases it <;> cases it' <;> simp only [It.owns, It.site, It.es, It.bs, Option.some.injEq, Bool.false_eq_true, Bool.true_eq_false, reduceCtorEq] at o1 o2 s1 s2 ⊢ <;> subst s1 <;> simp only [Site.cell.injEq, Site.box.injEq, reduceCtorEq] at s2
   all_goals
    obtain ⟨rfl, rfl⟩ := s2
    exact ⟨_, List.mem_singleton.2 rfl, List.mem_singleton.2 rfl⟩
  obtain ⟨a, a1, a2⟩ := key
  exact hbs a (List.mem_flatMap.2 ⟨it, List.mem_of_getElem? h1, a1⟩) (List.mem_flatMap.2 ⟨it', List.mem_of_getElem? h2, a2⟩)
section
variable {c : Cf} {g : Sig} {its : List It} {xs : List (Option CV)} {vs us : List Value} {L F : Nat → Fp}
theorem Lent.at (h : Lent c g its xs vs us L F) {k : Nat} {b : Nat} (hb : L k b) : ∃ it e x u s, its[k]? = some it ∧ (ents g.ps)[k]? = some e ∧ xs[k]? = some x ∧ us[k]? = some u ∧ ItFp c e it x u (L k) (F k) ∧ it.site = some s ∧ c.O b = some s := by
 have hk : k < its.length := by
  rcases Nat.lt_or_ge k its.length with h' | h'
  ·exact h'
  ·exact absurd hb (h.fin k h' b).1
 have hit : its[k]? = some its[k] := by simp [hk]
 obtain ⟨e, x, u, h1, h2, h3, h4⟩ := h.all.at k _ hit
 have hfp := h.fp k _ e x u hit h1 h2 h3
 obtain ⟨s, h5, h6⟩ := hfp.site b hb
 exact ⟨_, e, x, u, s, hit, h1, h2, h3, hfp, h5, h6⟩
theorem Lent.sub (h : Lent c g its xs vs us L F) {k b : Nat} (hb : F k b) : L k b ∧ ∃ it s, its[k]? = some it ∧ it.owns = true ∧ it.site = some s ∧ c.O b = some s := by
 have hk : k < its.length := by
  rcases Nat.lt_or_ge k its.length with h' | h'
  ·exact h'
  ·exact absurd hb (h.fin k h' b).2
 have hit : its[k]? = some its[k] := by simp [hk]
 obtain ⟨e, x, u, h1, h2, h3, h4⟩ := h.all.at k _ hit
 have hfp := h.fp k _ e x u hit h1 h2 h3
 have hl := hfp.sub b hb
 obtain ⟨s, h5, h6⟩ := hfp.site b hl
 refine ⟨hl, _, s, hit, ?_, h5, h6⟩
 cases ho : its[k].owns with
 | true => rfl
 | false => exact absurd hb (hfp.ro ho b)
def Zc (c : Cf) (L F : Nat → Fp) : Fp := fun b => c.Z b ∨ ∃ k, L k b ∧ ¬ F k b
theorem Lent.off (h : Lent c g its xs vs us L F) {i b : Nat} (hb : F i b) : ¬ Zc c L F b := by
 obtain ⟨hl, it, s, h1, h2, h3, h4⟩ := h.sub hb
 rintro (hz | ⟨k, k1, k2⟩)
 ·rw [h.inv.zo b hz] at h4; cases h4
 ·obtain ⟨it', e, x, u, s', g1, _, _, _, g5, g6, g7⟩ := h.at k1
  rw [h4] at g7
  obtain rfl := Option.some.inj g7
  cases ho : it'.owns with
  | true =>
   obtain rfl := h.one i k it it' s h1 g1 h2 ho h3 g6
   exact k2 hb
  | false => exact h.two i k it it' s h1 g1 h2 ho h3 g6
theorem Lent.pre (h : Lent c g its xs vs us L F) {args : TupT g.ins} (hp : pad (ents g.ps) (ofTup g.ins args) = some xs) : Pre g c.w (Zc c L F) F args vs us := by
 have zs : ∀ b, Zc c L F b → b < c.w.heap.size := fun b hb => by
  rcases hb with hb | ⟨k, hb, _⟩
  ·exact h.inv.zs b hb
  ·obtain ⟨it', e, x, u, s', _, _, _, _, _, _, g7⟩ := h.at hb
   exact h.inv.os b _ g7
 refine ⟨h.flat, ⟨xs, hp, fun k e x u h1 h2 h3 => ?_⟩, fun i j b hi hj => ?_, fun i b hb => ⟨h.off hb, ?_⟩, zs, fun i hi b hb => ?_⟩
 ·have hl := h.all.len
  have hk : k < its.length := by have := (List.getElem?_eq_some_iff.1 h1).1; omega
  have hfp := h.fp k its[k] e x u (by simp [hk]) h1 h2 h3
  have hz : ∀ b, (c.Z b ∨ (L k b ∧ ¬ F k b)) → Zc c L F b := fun b hb => hb.imp id fun hb => ⟨k, hb⟩
  have he := hfp.ent
  cases e with
  | val pc =>
   cases x with
   | some x => exact ⟨he.1, he.2.mono hz⟩
   | none => exact he
  | cell pc =>
   cases x with
   | some x => exact ⟨he.1, he.2.mono hz⟩
   | none => exact he
  | box n =>
   cases x with
   | some x => exact he
   | none => exact he
 ·obtain ⟨_, it, s, h1, h2, h3, h4⟩ := h.sub hi
  obtain ⟨_, it', s', g1, g2, g3, g4⟩ := h.sub hj
  rw [h4] at g4
  obtain rfl := Option.some.inj g4
  exact h.one i j it it' s h1 g1 h2 g2 h3 g3
 ·obtain ⟨_, it, s, h1, h2, h3, h4⟩ := h.sub hb
  exact h.inv.os b _ h4
 ·exact (h.fin i (by have := h.all.len; omega) b).2 hb
end
end Go.PV

namespace Go.PV
variable {Pg : Program}
theorem flat_len {w : World} : ∀ {pars : List Par} {vs us : List Value}, Flat w pars vs us → us.length = (ents pars).length
 | [], [], us, h => by simp only [Flat] at h; subst h; rfl
 | [], _ :: _, _, h => h.elim
 | .val _ _ :: _, [], _, h => h.elim
 | .ptr _ :: _, [], _, h => h.elim
 | .val a pcs :: pars, v :: vs, us, h => by
  obtain ⟨us1, us2, rfl, h1, _, h2⟩ := h
  simp [ents, flat_len h2, h1]
 | .ptr pcs :: pars, v :: vs, us, h => by
  obtain ⟨us1, us2, b, E, fz, rfl, h1, _, _, _, h2⟩ := h
  simp [ents, flat_len h2, h1]
theorem flat_box {w : World} : ∀ {pars : List Par} {vs us : List Value}, Flat w pars vs us → ∀ (k n : Nat), (ents pars)[k]? = some (.box n) →
  ∃ b E fz, us[k]? = some (.pointer (some ⟨b, 0, none⟩)) ∧ w.heap[b]? = some (.cells ((us.drop (k + 1)).take n).toArray E fz) ∧ free fz n ∧ ((us.drop (k + 1)).take n).length = n
 | [], [], us, _, k, n, hk => by simp [ents] at hk
 | [], _ :: _, _, h, _, _, _ => h.elim
 | .val _ _ :: _, [], _, h, _, _, _ => h.elim
 | .ptr _ :: _, [], _, h, _, _, _ => h.elim
 | .val a pcs :: pars, v :: vs, us, h, k, n, hk => by
  obtain ⟨us1, us2, rfl, h1, _, h2⟩ := h
  simp only [ents] at hk
  rcases split_at hk with hk1 | ⟨m, rfl, hk2⟩
  ·simp at hk1
  ·obtain ⟨b, E, fz, g1, g2, g3, g4⟩ := flat_box h2 m n hk2
   rw [List.length_map, ← h1]
   have e : (us1 ++ us2).drop (us1.length + m + 1) = us2.drop (m + 1) := by
    rw [show us1.length + m + 1 = us1.length + (m + 1) by omega, List.drop_append]
    simp
   rw [e, some_right]
   exact ⟨b, E, fz, g1, g2, g3, g4⟩
 | .ptr pcs :: pars, v :: vs, us, h, k, n, hk => by
  obtain ⟨us1, us2, b, E, fz, rfl, h1, h3, h4, h5, h2⟩ := h
  simp only [ents] at hk
  cases k with
  | zero =>
   simp only [List.getElem?_cons_zero, Option.some.injEq, Ent.box.injEq] at hk
   subst hk
   refine ⟨b, E, fz, by simp [h3], ?_, by rw [← h1]; exact h5, ?_⟩
   ·simp only [Nat.zero_add, List.drop_succ_cons, List.drop_zero]
    rw [← h1, List.take_append_of_le_length (Nat.le_refl _), List.take_length]
    exact h4
   ·simp only [Nat.zero_add, List.drop_succ_cons, List.drop_zero]
    rw [← h1, List.take_append_of_le_length (Nat.le_refl _), List.take_length]
  | succ k =>
   simp only [List.getElem?_cons_succ] at hk
   rcases split_at hk with hk1 | ⟨m, rfl, hk2⟩
   ·simp at hk1
   ·obtain ⟨b, E, fz, g1, g2, g3, g4⟩ := flat_box h2 m n hk2
    rw [List.length_map, ← h1]
    have e : (v :: (us1 ++ us2)).drop (us1.length + m + 1 + 1) = us2.drop (m + 1) := by
     rw [List.drop_succ_cons, show us1.length + m + 1 = us1.length + (m + 1) by omega, List.drop_append]
     simp
    rw [e, List.getElem?_cons_succ, some_right]
    exact ⟨b, E, fz, g1, g2, g3, g4⟩
theorem flat_same {w w' : World} : ∀ {pars : List Par} {vs us us' : List Value}, Flat w pars vs us → Flat w' pars vs us' → ∀ (k : Nat), (∀ pc, (ents pars)[k]? ≠ some (.cell pc)) → us'[k]? = us[k]?
 | [], [], us, us', h, h', k, _ => by simp only [Flat] at h h'; subst h; subst h'; rfl
 | [], _ :: _, _, _, h, _, _, _ => h.elim
 | .val _ _ :: _, [], _, _, h, _, _, _ => h.elim
 | .ptr _ :: _, [], _, _, h, _, _, _ => h.elim
 | .val a pcs :: pars, v :: vs, us, us', h, h', k, hk => by
  obtain ⟨us1, us2, rfl, h1, h3, h2⟩ := h
  obtain ⟨us1', us2', rfl, h1', h3', h2'⟩ := h'
  have e : us1' = us1 := by
   cases a with
   | true =>
    simp only [slotV] at h3 h3'
    rw [h3] at h3'
    simpa using h3'.symm
   | false =>
    simp only [slotV] at h3 h3'
    rw [h3, h3']
  subst e
  rcases Nat.lt_or_ge k us1'.length with hlt | hge
  ·rw [List.getElem?_append_left hlt, List.getElem?_append_left hlt]
  ·rw [List.getElem?_append_right hge, List.getElem?_append_right hge]
   refine flat_same h2 h2' _ fun pc hpc => hk pc ?_
   simp only [ents]
   rw [List.getElem?_append_right (by simp; omega), List.length_map, ← h1]
   exact hpc
 | .ptr pcs :: pars, v :: vs, us, us', h, h', k, hk => by
  obtain ⟨us1, us2, b, E, fz, rfl, h1, h3, h4, h5, h2⟩ := h
  obtain ⟨us1', us2', b', E', fz', rfl, h1', h3', h4', h5', h2'⟩ := h'
  cases k with
  | zero => rfl
  | succ k =>
   simp only [List.getElem?_cons_succ]
   rcases Nat.lt_or_ge k pcs.length with hlt | hge
   ·exfalso
    refine hk pcs[k] ?_
    simp only [ents, List.getElem?_cons_succ]
    rw [List.getElem?_append_left (by simpa using hlt)]
    simp [hlt]
   ·rw [List.getElem?_append_right (by omega), List.getElem?_append_right (by omega), h1, h1']
    refine flat_same h2 h2' _ fun pc hpc => hk pc ?_
    simp only [ents, List.getElem?_cons_succ]
    rw [List.getElem?_append_right (by simpa using hge), List.length_map]
    exact hpc
theorem fill_at : ∀ {es : List Ent} {cs : List CV} {ys : List (Option CV)}, fill es cs = some ys → ys.length = es.length ∧ ∀ (k : Nat) e, es[k]? = some e → (e.back = true → ∃ y, ys[k]? = some (some y)) ∧ (e.back = false → ys[k]? = some none)
 | [], [], ys, h => by
  simp only [fill, Option.some.injEq] at h
  subst h
  exact ⟨rfl, fun k e hk => by simp at hk⟩
 | [], _ :: _, _, h => by cases h
 | e0 :: es, cs, ys, h => by
  simp only [fill] at h
  cases hb : e0.back with
  | true =>
   rw [hb] at h
   simp only [cond_true] at h
   split at h
   ·split at h
    ·rename_i l hl
     obtain rfl := Option.some.inj h
     obtain ⟨h1, h2⟩ := fill_at hl
     refine ⟨by simp [h1], fun k e hk => ?_⟩
     cases k with
     | zero =>
      simp only [List.getElem?_cons_zero, Option.some.injEq] at hk
      subst hk
      exact ⟨fun _ => ⟨_, rfl⟩, fun h => by rw [hb] at h; cases h⟩
     | succ k => simpa using h2 k e (by simpa using hk)
    ·cases h
   ·cases h
  | false =>
   rw [hb] at h
   simp only [cond_false] at h
   split at h
   ·rename_i l hl
    obtain rfl := Option.some.inj h
    obtain ⟨h1, h2⟩ := fill_at hl
    refine ⟨by simp [h1], fun k e hk => ?_⟩
    cases k with
    | zero =>
     simp only [List.getElem?_cons_zero, Option.some.injEq] at hk
     subst hk
     exact ⟨fun h => (by rw [hb] at h; cases h), fun _ => rfl⟩
    | succ k => simpa using h2 k e (by simpa using hk)
   ·cases h
theorem backOne_spec {rt rt1 : Rt} {it : It} {y : Option CV} (h : backOne rt it y = some rt1) : (it.at = none → rt1 = rt) ∧ ∀ id j, it.at = some (id, j) → ∃ r x x', rt id = some r ∧ r.cells[j]? = some x ∧ newCell it x y = some x' ∧ rt1 = setRt rt id ⟨r.virt, r.cells.set j x'⟩ := by
 unfold backOne at h
 split at h
 ·rename_i id j hat
  refine ⟨fun e => (by rw [hat] at e; cases e), fun id' j' e => ?_⟩
  rw [hat] at e
  obtain ⟨rfl, rfl⟩ := Prod.mk.inj (Option.some.inj e)
  split at h
  ·rename_i x hx
   split at h
   ·rename_i x' hx'
    obtain ⟨r, hr, hxj⟩ := cellAt_some hx
    exact ⟨r, x, x', hr, hxj, hx', setCellAt_some hr h⟩
   ·cases h
  ·cases h
 ·rename_i hat
  refine ⟨fun _ => ?_, fun id j e => (by rw [hat] at e; cases e)⟩
  split at h
  ·exact (Option.some.inj h).symm
  ·cases h
theorem back_spec : ∀ {its : List It} {ys : List (Option CV)} {rt rt2 : Rt}, backAll rt its ys = some rt2 → (∀ (k k' : Nat) it it' q, its[k]? = some it → its[k']? = some it' → it.at = some q → it'.at = some q → k = k') →
  ys.length = its.length ∧ (∀ id, rt id = none → rt2 id = none) ∧ ∀ id r, rt id = some r → ∃ r2, rt2 id = some r2 ∧ r2.virt = r.virt ∧ r2.cells.length = r.cells.length ∧ ∀ (j : Nat) x, r.cells[j]? = some x → ∃ x2, r2.cells[j]? = some x2 ∧
   ((∀ (k : Nat) it, its[k]? = some it → it.at ≠ some (id, j)) → x2 = x) ∧ ∀ (k : Nat) it y, its[k]? = some it → ys[k]? = some y → it.at = some (id, j) → newCell it x y = some x2
 | [], [], rt, rt2, h, _ => by
  simp only [backAll, Option.some.injEq] at h
  subst h
  exact ⟨rfl, fun _ h => h, fun id r hr => ⟨r, hr, rfl, rfl, fun j x hx => ⟨x, hx, fun _ => rfl, fun k it y hk => by simp at hk⟩⟩⟩
 | [], _ :: _, _, _, h, _ => by cases h
 | _ :: _, [], _, _, h, _ => by cases h
 | it0 :: its, y0 :: ys, rt, rt2, h, hu => by
  simp only [backAll] at h
  split at h
  ·rename_i rt1 h1
   obtain ⟨hlen, hnone, hsome⟩ := back_spec h fun k k' it it' q g1 g2 g3 g4 => by have := hu (k + 1) (k' + 1) it it' q (by simpa using g1) (by simpa using g2) g3 g4; omega
   obtain ⟨s1, s2⟩ := backOne_spec h1
   refine ⟨by simp [hlen], fun id hid => ?_, fun id r hr => ?_⟩
   ·cases hat : it0.at with
    | none => obtain rfl := s1 hat; exact hnone id hid
    | some q =>
     obtain ⟨i0, j0⟩ := q
     obtain ⟨r0, x0, x', e1, e2, e3, rfl⟩ := s2 i0 j0 hat
     refine hnone id ?_
     have hne : id ≠ i0 := fun e => by subst e; rw [hid] at e1; cases e1
     rw [setRt_ne hne]; exact hid
   ·cases hat : it0.at with
    | none =>
     obtain rfl := s1 hat
     obtain ⟨r2, g1, g2, g3, g4⟩ := hsome id r hr
     refine ⟨r2, g1, g2, g3, fun j x hx => ?_⟩
     obtain ⟨x2, k1, k2, k3⟩ := g4 j x hx
     refine ⟨x2, k1, fun hn => k2 fun k it hk => hn (k + 1) it (by simpa using hk), fun k it y hk hy ha => ?_⟩
     cases k with
     | zero =>
      simp only [List.getElem?_cons_zero, Option.some.injEq] at hk
      subst hk
      rw [hat] at ha; cases ha
     | succ k => exact k3 k it y (by simpa using hk) (by simpa using hy) ha
    | some q =>
     obtain ⟨i0, j0⟩ := q
     obtain ⟨r0, x0, x', e1, e2, e3, rfl⟩ := s2 i0 j0 hat
     by_cases hid : id = i0
     ·subst hid
      rw [hr] at e1
      obtain rfl := Option.some.inj e1
      obtain ⟨r2, g1, g2, g3, g4⟩ := hsome id ⟨r.virt, r.cells.set j0 x'⟩ setRt_self
      refine ⟨r2, g1, g2, g3.trans (by simp), fun j x hx => ?_⟩
      by_cases hj : j = j0
      ·subst hj
       rw [hx] at e2
       obtain rfl := Option.some.inj e2
       have hlt := (List.getElem?_eq_some_iff.1 hx).1
       obtain ⟨x2, k1, k2, k3⟩ := g4 j x' (by simp [hlt])
       have hx2 : x2 = x' := k2 fun k it hk ha => by have := hu 0 (k + 1) it0 it (id, j) rfl (by simpa using hk) hat ha; omega
       subst hx2
       refine ⟨x2, k1, fun hn => absurd hat (hn 0 it0 rfl), fun k it y hk hy ha => ?_⟩
       cases k with
       | zero =>
        simp only [List.getElem?_cons_zero, Option.some.injEq] at hk hy
        subst hk
        subst hy
        exact e3
       | succ k => have := hu 0 (k + 1) it0 it (id, j) rfl hk hat ha; omega
      ·obtain ⟨x2, k1, k2, k3⟩ := g4 j x (by rw [List.getElem?_set_ne (Ne.symm hj)]; exact hx)
       refine ⟨x2, k1, fun hn => k2 fun k it hk => hn (k + 1) it (by simpa using hk), fun k it y hk hy ha => ?_⟩
       cases k with
       | zero =>
        simp only [List.getElem?_cons_zero, Option.some.injEq] at hk
        subst hk
        rw [hat] at ha
        exact absurd (Prod.mk.inj (Option.some.inj ha)).2.symm hj
       | succ k => exact k3 k it y (by simpa using hk) (by simpa using hy) ha
     ·obtain ⟨r2, g1, g2, g3, g4⟩ := hsome id r (by rw [setRt_ne hid]; exact hr)
      refine ⟨r2, g1, g2, g3, fun j x hx => ?_⟩
      obtain ⟨x2, k1, k2, k3⟩ := g4 j x hx
      refine ⟨x2, k1, fun hn => k2 fun k it hk => hn (k + 1) it (by simpa using hk), fun k it y hk hy ha => ?_⟩
      cases k with
      | zero =>
       simp only [List.getElem?_cons_zero, Option.some.injEq] at hk
       subst hk
       rw [hat] at ha
       exact absurd (Prod.mk.inj (Option.some.inj ha)).1.symm hid
      | succ k => exact k3 k it y (by simpa using hk) (by simpa using hy) ha
  ·cases h
def convS (its : List It) (k : Nat) : Option Site := match its[k]? with
 | some (.own id j _ pc) => bif pc.kept then some (.cell id j) else none
 | some (.bown id j _) => some (.cell id j)
 | some (.box id _) => some (.box id)
 | _ => none
def lentAt (its : List It) (L : Nat → Fp) (b : Nat) : Prop := ∃ k it, its[k]? = some it ∧ it.owns = true ∧ L k b
noncomputable def ownAfter (c : Cf) (its : List It) (L : Nat → Fp) (O1 : Own) : Own := fun b => open Classical in match O1 b with
 | some (.cell k j) => if j = 0 then convS its k else none
 | some (.det n) => some (.det n)
 | some (.box _) => none
 | none => if b < c.w.heap.size ∧ ¬ lentAt its L b then c.O b else none
theorem convS_site {its : List It} {k : Nat} {s : Site} (h : convS its k = some s) : ∃ it, its[k]? = some it ∧ it.owns = true ∧ it.site = some s := by
 unfold convS at h
 split at h
 ·rename_i id j st pc hk
  obtain ⟨_, h⟩ := cond_s h
  obtain rfl := Option.some.inj h
  exact ⟨_, hk, rfl, rfl⟩
 ·rename_i hk; obtain rfl := Option.some.inj h; exact ⟨_, hk, rfl, rfl⟩
 ·rename_i hk; obtain rfl := Option.some.inj h; exact ⟨_, hk, rfl, rfl⟩
 ·cases h
section
variable {c : Cf} {its : List It} {L : Nat → Fp} {O1 : Own}
theorem ownAfter_some {b : Nat} {s : Site} (h : ownAfter c its L O1 b = some s) : (∃ k, O1 b = some (.cell k 0) ∧ convS its k = some s) ∨ (∃ n, s = .det n ∧ O1 b = some (.det n)) ∨ (O1 b = none ∧ b < c.w.heap.size ∧ ¬ lentAt its L b ∧ c.O b = some s) := by
 unfold ownAfter at h
 split at h
 ·rename_i k j hk
  split at h
  ·rename_i hj; subst hj; exact .inl ⟨k, hk, h⟩
  ·cases h
 ·rename_i n hn; exact .inr (.inl ⟨n, (Option.some.inj h).symm, hn⟩)
 ·cases h
 ·rename_i hn
  split at h
  ·rename_i hc; exact .inr (.inr ⟨hn, hc.1, hc.2, h⟩)
  ·cases h
theorem ownAfter_back {b k : Nat} (h : O1 b = some (.cell k 0)) : ownAfter c its L O1 b = convS its k := by
 unfold ownAfter; rw [h]; simp
theorem ownAfter_det {b n : Nat} (h : O1 b = some (.det n)) : ownAfter c its L O1 b = some (.det n) := by
 unfold ownAfter; rw [h]
theorem ownAfter_old {b : Nat} (h : O1 b = none) (hb : b < c.w.heap.size) (hl : ¬ lentAt its L b) : ownAfter c its L O1 b = c.O b := by
 unfold ownAfter; rw [h]; simp only; rw [if_pos ⟨hb, hl⟩]
theorem ownAfter_none {b : Nat} (h : O1 b = none) (hc : b < c.w.heap.size → ¬ lentAt its L b → c.O b = none) : ownAfter c its L O1 b = none := by
 unfold ownAfter
 rw [h]
 simp only
 split
 ·rename_i hb; exact hc hb.1 hb.2
 ·rfl
end
end Go.PV

namespace Go.PV
theorem It.at_site {it : It} {id j : Nat} (h : it.owns = true) (hs : it.site = some (.cell id j)) : it.at = some (id, j) := by
 cases it <;> simp only [It.owns, It.site, It.at, Option.some.injEq, Site.cell.injEq, reduceCtorEq, Bool.false_eq_true] at h hs ⊢
 ·obtain ⟨rfl, rfl⟩ := hs; rfl
 ·obtain ⟨rfl, rfl⟩ := hs; rfl
theorem It.site_at {it : It} {id j : Nat} (h : it.at = some (id, j)) : it.owns = true ∧ it.site = some (.cell id j) := by
 cases it <;> simp only [It.owns, It.site, It.at, Option.some.injEq, Prod.mk.injEq, Site.cell.injEq, reduceCtorEq] at h ⊢
 ·exact ⟨trivial, h⟩
 ·exact ⟨trivial, h⟩
theorem Rep.len_eq {w w' : World} {Z Z' : Fp} {cs : SS} {d d' : Nat} {xs ys : List cs.T} {v : Value} {F F' : Fp} (h : Rep w Z (.row cs) d xs v F) (h' : Rep w' Z' (.row cs) d' ys v F') : ys.length = xs.length := by
 simp only [Rep] at h h'
 obtain ⟨A, cap, e, _⟩ := h
 obtain ⟨A', cap', e', _⟩ := h'
 rw [e] at e'
 simp only [Value.slice.injEq] at e'
 exact e'.2.1.symm
theorem ents_back : ∀ {ps : List Par} {k : Nat} {e : Ent}, (ents ps)[k]? = some e → e.back = true → ∀ pc, (e = .val pc ∨ e = .cell pc) → pc ∈ ps.flatMap Par.back
 | [], k, e, h, _, _, _ => by simp [ents] at h
 | .val a l :: ps, k, e, h, hb, pc, hpc => by
  simp only [ents] at h
  rw [List.flatMap_cons, List.mem_append]
  rcases split_at h with h1 | ⟨m, rfl, h2⟩
  ·rw [List.getElem?_map, Option.map_eq_some_iff] at h1
   obtain ⟨pc', g1, rfl⟩ := h1
   rcases hpc with hpc | hpc
   ·cases hpc
    refine .inl ?_
    simp only [Par.back, List.mem_filter]
    refine ⟨List.mem_of_getElem? g1, ?_⟩
    simp only [Ent.back, Bool.and_eq_true, Bool.not_eq_true'] at hb ⊢
    refine ⟨hb.1, ?_⟩
    cases hd : (pc.d == 0) with
    | false => rfl
    | true =>
     have : pc.d = 0 := by simpa using hd
     rw [this] at hb
     exact absurd hb.2 (by simp)
   ·cases hpc
  ·exact .inr (ents_back h2 hb pc hpc)
 | .ptr l :: ps, k, e, h, hb, pc, hpc => by
  simp only [ents] at h
  rw [List.flatMap_cons, List.mem_append]
  cases k with
  | zero =>
   simp only [List.getElem?_cons_zero, Option.some.injEq] at h
   subst h
   cases hb
  | succ k =>
   simp only [List.getElem?_cons_succ] at h
   rcases split_at h with h1 | ⟨m, rfl, h2⟩
   ·rw [List.getElem?_map, Option.map_eq_some_iff] at h1
    obtain ⟨pc', g1, rfl⟩ := h1
    rcases hpc with hpc | hpc
    ·cases hpc
    ·cases hpc
     refine .inl ?_
     simp only [Par.back, List.mem_filter]
     exact ⟨List.mem_of_getElem? g1, hb⟩
   ·exact .inr (ents_back h2 hb pc hpc)
def zAfter (g : Sig) (c : Cf) (Z1 : Fp) : Fp := match g.holds with
 | true => Z1
 | false => c.Z
section
variable {c : Cf} {g : Sig} {its : List It} {xs : List (Option CV)} {vs us us' : List Value} {L F : Nat → Fp} {w' : World} {out : TupT g.outs} {v : Value} {O1 : Own} {Z1 : Fp} {ys : List (Option CV)} {rt2 : Rt}
structure Came (c : Cf) (g : Sig) (its : List It) (xs : List (Option CV)) (vs us us' : List Value) (L F : Nat → Fp) (w' : World) (out : TupT g.outs) (v : Value) (O1 : Own) (Z1 : Fp) (ys : List (Option CV)) (rt2 : Rt) : Prop where
 lent : Lent c g its xs vs us L F
 post : Post1 g c.w w' (Zc c L F) F out vs us v O1 Z1 us'
 fill : PV.fill (ents g.ps) ((ofTup g.outs out).drop g.res.length) = some ys
 back : backAll c.rt its ys = some rt2
 froz : g.holds = true → its.all (frozenIt c.rt) = true
def NoOwn (its : List It) (s : Site) : Prop := ∀ (k : Nat) it, its[k]? = some it → it.owns = true → it.site ≠ some s
theorem Came.nof (h : Came c g its xs vs us us' L F w' out v O1 Z1 ys rt2) {b : Nat} {s : Site} (hb : c.O b = some s) (hn : NoOwn its s) : (∀ i, ¬ F i b) ∧ ¬ lentAt its L b := by
 refine ⟨fun i hi => ?_, fun ⟨k, it, h1, h2, h3⟩ => ?_⟩
 ·obtain ⟨_, it, s', h1, h2, h3, h4⟩ := h.lent.sub hi
  rw [hb] at h4
  obtain rfl := Option.some.inj h4
  exact hn i it h1 h2 h3
 ·obtain ⟨it', e, x, u, s', g1, _, _, _, _, g6, g7⟩ := h.lent.at h3
  rw [h1] at g1
  obtain rfl := Option.some.inj g1
  rw [hb] at g7
  obtain rfl := Option.some.inj g7
  exact hn k it h1 h2 g6
theorem Came.o1none (h : Came c g its xs vs us us' L F w' out v O1 Z1 ys rt2) {b : Nat} (hb : b < c.w.heap.size) (hn : ∀ i, ¬ F i b) : O1 b = none := by
 cases ho : O1 b with
 | none => rfl
 | some s =>
  rcases (h.post.os b s ho).2 with ⟨i, hi⟩ | hi
  ·exact absurd hi (hn i)
  ·omega
theorem Came.keep (h : Came c g its xs vs us us' L F w' out v O1 Z1 ys rt2) {b : Nat} {s : Site} (hb : c.O b = some s) (hn : NoOwn its s) : w'.heap[b]? = c.w.heap[b]? ∧ ownAfter c its L O1 b = some s := by
 obtain ⟨h1, h2⟩ := h.nof hb hn
 have hlt := h.lent.inv.os b s hb
 exact ⟨h.post.same b hlt h1, (ownAfter_old (h.o1none hlt h1) hlt h2).trans hb⟩
theorem Came.zheap (h : Came c g its xs vs us us' L F w' out v O1 Z1 ys rt2) {b : Nat} (hb : c.Z b) : w'.heap[b]? = c.w.heap[b]? ∧ O1 b = none := by
 have hn : ∀ i, ¬ F i b := fun i hi => h.lent.off hi (.inl hb)
 have hlt := h.lent.inv.zs b hb
 exact ⟨h.post.same b hlt hn, h.o1none hlt hn⟩
theorem Came.znext (h : Came c g its xs vs us us' L F w' out v O1 Z1 ys rt2) {b : Nat} (hb : c.Z b) : zAfter g c Z1 b := by
 unfold zAfter
 cases g.holds with
 | false => exact hb
 | true => exact h.post.z b (.inl hb)
theorem Came.znone (h : Came c g its xs vs us us' L F w' out v O1 Z1 ys rt2) {b : Nat} (hb : zAfter g c Z1 b) : ownAfter c its L O1 b = none ∧ b < w'.heap.size ∧ (c.Z b ∨ c.O b ≠ none ∨ c.w.heap.size ≤ b) := by
 unfold zAfter at hb
 cases hh : g.holds with
 | false =>
  rw [hh] at hb
  have hb : c.Z b := hb
  exact ⟨ownAfter_none (h.zheap hb).2 fun _ _ => h.lent.inv.zo b hb, Nat.lt_of_lt_of_le (h.lent.inv.zs b hb) h.post.size, .inl hb⟩
 | true =>
  rw [hh] at hb
  have hb : Z1 b := hb
  have key : c.Z b ∨ lentAt its L b ∨ c.w.heap.size ≤ b := by
   rcases h.post.z' b hb with (hz | ⟨k, k1, k2⟩) | ⟨i, hi⟩ | hs
   ·exact .inl hz
   ·obtain ⟨it, e, x, u, s, g1, g2, g3, g4, g5, g6, g7⟩ := h.lent.at k1
    cases ho : it.owns with
    | true => exact .inr (.inl ⟨k, it, g1, ho, k1⟩)
    | false =>
     have := h.froz hh
     rw [List.all_eq_true] at this
     exact absurd k1 (g5.frozen (this it (List.mem_of_getElem? g1)) ho b)
   ·obtain ⟨hl, it, s, g1, g2, _, _⟩ := h.lent.sub hi
    exact .inr (.inl ⟨i, it, g1, g2, hl⟩)
   ·exact .inr (.inr hs)
  refine ⟨ownAfter_none (h.post.zo b hb) fun hlt hnl => ?_, h.post.zs b hb, ?_⟩
  ·rcases key with hz | hl | hs
   ·exact h.lent.inv.zo b hz
   ·exact absurd hl hnl
   ·omega
  ·rcases key with hz | ⟨k, it, g1, g2, g3⟩ | hs
   ·exact .inl hz
   ·obtain ⟨_, _, _, _, s, _, _, _, _, _, _, g7⟩ := h.lent.at g3
    exact .inr (.inl (by rw [g7]; simp))
   ·exact .inr (.inr hs)
theorem Came.deep (h : Came c g its xs vs us us' L F w' out v O1 Z1 ys rt2) {s : S} {d : Nat} {x : s.T} {u : Value} {G : Fp} (hd : g.holds = false → s.depth ≤ d) (hr : Rep w' Z1 s d x u G) : Rep w' (zAfter g c Z1) s d x u G := by
 unfold zAfter
 cases hh : g.holds with
 | true => exact hr
 | false => exact Rep.deep (hd hh) (hd hh) hr
theorem holds_back {g : Sig} (h : g.holds = false) {k : Nat} {e : Ent} (he : (ents g.ps)[k]? = some e) (hb : e.back = true) {pc : PC} (hpc : e = .val pc ∨ e = .cell pc) : pc.s.depth ≤ pc.d2 := by
 have hm := ents_back he hb pc hpc
 unfold Sig.holds at h
 simp only [Bool.or_eq_false_iff, List.any_eq_false] at h
 have := h.2 pc hm
 simp only [Nat.blt_eq] at this
 omega
theorem Came.same_own (h : Came c g its xs vs us us' L F w' out v O1 Z1 ys rt2) {s : Site} (hs : ∀ n, s ≠ .det n) (hn : NoOwn its s) (b : Nat) : ownAfter c its L O1 b = some s ↔ c.O b = some s := by
 constructor
 ·intro hb
  rcases ownAfter_some hb with ⟨k, _, k2⟩ | ⟨n, e, _⟩ | ⟨_, _, _, e⟩
  ·obtain ⟨it, g1, g2, g3⟩ := convS_site k2
   exact absurd g3 (hn k it g1 g2)
  ·exact absurd e (hs n)
  ·exact e
 ·intro hb
  exact (h.keep hb hn).2
theorem Came.rootVal (h : Came c g its xs vs us us' L F w' out v O1 Z1 ys rt2) {id : Nat} {r r2 : Root} (hr : c.rt id = some r) (hv : r2.virt = r.virt) {j : Nat} {x : VC} (hx : r.cells[j]? = some x) {rv : Value} (hrv : PV.rootVal c.w r (c.γ id) j = some rv) :
  ((∀ (k : Nat) n, its[k]? ≠ some (.box id n)) → PV.rootVal w' r2 (c.γ id) j = some rv) ∧
  (∀ (k : Nat) n, its[k]? = some (.box id n) → ∃ it' u', its[k + 1 + j]? = some it' ∧ it'.bcell = some (id, j) ∧ us[k + 1 + j]? = some rv ∧ us'[k + 1 + j]? = some u' ∧ PV.rootVal w' r2 (c.γ id) j = some u') := by
 refine ⟨fun hn => ?_, fun k n hk => ?_⟩
 ·rw [← hrv]
  unfold PV.rootVal
  rw [hv]
  cases hvirt : r.virt with
  | true => rfl
  | false =>
   obtain ⟨b, ca, E, fz, h1, h2, h3, h4, h5⟩ := (h.lent.inv.root id r hr).box hvirt
   simp only [h1]
   refine cell_of_heap (h.keep ((h5 b).2 rfl) fun k it g1 g2 g3 => ?_).1
   cases it <;> simp only [It.owns, It.site, Option.some.injEq, reduceCtorEq, Site.box.injEq] at g2 g3
   subst g3
   exact hn k _ g1
 ·obtain ⟨e, x', u, h1, h2, h3, h4⟩ := h.lent.all.at k _ hk
  cases e with
  | box m =>
   cases x' with
   | none =>
    obtain ⟨rfl, r', b, g1, g2, g3, g4, g5⟩ := h4
    rw [hr] at g1
    obtain rfl := Option.some.inj g1
    have hj : j < n := by rw [← g3]; exact (List.getElem?_eq_some_iff.1 hx).1
    obtain ⟨it', k1, k2⟩ := h.lent.box.down k id n hk j hj
    obtain ⟨e', x'', u2, m1, m2, m3, m4⟩ := h.lent.all.at _ _ k1
    have hu2 : u2 = rv := by
     cases it' with
     | bown id' j' pc =>
      simp only [It.bcell, Option.some.injEq, Prod.mk.injEq] at k2
      obtain ⟨rfl, rfl⟩ := k2
      cases e' with
      | cell pc' =>
       cases x'' with
       | some x'' =>
        obtain ⟨_, _, _, r', y, d, f1, _, _, _, f5, _⟩ := m4
        rw [hr] at f1
        obtain rfl := Option.some.inj f1
        rw [hrv] at f5
        exact (Option.some.inj f5).symm
       | none => exact m4.elim
      | _ => exact m4.elim
     | blk id' j' pc =>
      simp only [It.bcell, Option.some.injEq, Prod.mk.injEq] at k2
      obtain ⟨rfl, rfl⟩ := k2
      cases e' with
      | cell pc' =>
       cases x'' with
       | some x'' =>
        obtain ⟨_, _, _, r', y, f1, _, _, f5, _⟩ := m4
        rw [hr] at f1
        obtain rfl := Option.some.inj f1
        rw [hrv] at f5
        exact (Option.some.inj f5).symm
       | none => exact m4.elim
      | _ => exact m4.elim
     | _ => cases k2
    subst hu2
    obtain ⟨b', E, fz, f1, f2, f3, f4⟩ := flat_box h.post.flat k n h1
    have hb' : b' = b := by
     have := flat_same h.lent.flat h.post.flat k (fun pc hpc => by rw [h1] at hpc; cases hpc)
     rw [f1, h3, g5] at this
     simpa using this
    subst hb'
    have hlen := flat_len h.post.flat
    have hlt : k + 1 + j < us'.length := by
     rw [hlen]
     exact (List.getElem?_eq_some_iff.1 m1).1
    refine ⟨it', us'[k + 1 + j], k1, k2, m3, by simp [hlt], ?_⟩
    unfold PV.rootVal
    rw [hv, g2, g4, g5]
    simp only [World.cell?, f2]
    have e3 : ((us'.drop (k + 1)).take n)[j]? = some us'[k + 1 + j] := by
     rw [List.getElem?_take_of_lt hj, List.getElem?_drop]
     simp [hlt]
    simpa using e3
   | some _ => exact h4.elim
  | _ => exact h4.elim
structure Aft (c : Cf) (w' : World) (Z' : Fp) (O' : Own) (id j : Nat) (rv' : Value) (x x2 : VC) (rv : Value) : Prop where
 own : ∀ d e, x2.c = .mk d e → Rep w' Z' e.s d e.x rv' (fun b => O' b = some (.cell id j))
 lk : ∀ e, x2.c = .lk e → Rep w' Z' e.s 0 e.x rv' nil'
 no : (∀ d e, x2.c ≠ .mk d e) → ∀ b, O' b ≠ some (.cell id j)
 al : ∀ a b st cut n, x2.c = .al a b st cut n → x.c = x2.c ∧ rv' = rv
theorem Came.cell (h : Came c g its xs vs us us' L F w' out v O1 Z1 ys rt2) {id : Nat} {r r2 : Root} (hr : c.rt id = some r) (hv : r2.virt = r.virt) {j : Nat} {x x2 : VC} (hx : r.cells[j]? = some x)
  (hold : (∀ (k : Nat) it, its[k]? = some it → it.at ≠ some (id, j)) → x2 = x) (hnew : ∀ (k : Nat) it y, its[k]? = some it → ys[k]? = some y → it.at = some (id, j) → newCell it x y = some x2)
  {rv : Value} (hrv : PV.rootVal c.w r (c.γ id) j = some rv) :
  ∃ rv', PV.rootVal w' r2 (c.γ id) j = some rv' ∧ CellCh c.w w' rv rv' x x2 ∧ Aft c w' (zAfter g c Z1) (ownAfter c its L O1) id j rv' x x2 rv := by
 obtain ⟨rA, rB⟩ := h.rootVal hr hv hx hrv
 obtain ⟨rv0, c1, c2⟩ := (h.lent.inv.root id r hr).cell j x hx
 rw [hrv] at c1
 obtain rfl := Option.some.inj c1
 obtain ⟨fl, ff⟩ := fill_at h.fill
 obtain ⟨ys', hys', hback⟩ := h.post.back
 rw [h.fill] at hys'
 obtain rfl := Option.some.inj hys'
 by_cases hex : ∃ (k : Nat) (it : It), its[k]? = some it ∧ it.at = some (id, j)
 ·obtain ⟨k, it, hk, hat⟩ := hex
  obtain ⟨own1, own2⟩ := It.site_at hat
  obtain ⟨e, xx, u, a1, a2, a3, a4⟩ := h.lent.all.at k it hk
  have hfp := h.lent.fp k it e xx u hk a1 a2 a3
  have uniq : ∀ (k' : Nat) (it' : It), its[k']? = some it' → it'.owns = true → it'.site = some (.cell id j) → k' = k := fun k' it' q1 q2 q3 => h.lent.one k' k it' it _ q1 hk q2 own1 q3 own2
  have hyk : ∃ y, ys[k]? = some y := by
   have : k < ys.length := by rw [fl]; exact (List.getElem?_eq_some_iff.1 a1).1
   exact ⟨ys[k], by simp [this]⟩
  obtain ⟨y, hy⟩ := hyk
  have hnc := hnew k it y hk hy hat
  have hu' : ∃ u', us'[k]? = some u' := by
   have : k < us'.length := by rw [flat_len h.post.flat]; exact (List.getElem?_eq_some_iff.1 a1).1
   exact ⟨us'[k], by simp [this]⟩
  obtain ⟨u', hu'⟩ := hu'
  have hout := hback k e y u u' a1 hy a3 hu'
  have hH : ∀ b, O1 b = some (.cell k 0) → ¬ (c.O b = some (.cell id j) ∧ ¬ L k b) := fun b hb ⟨q1, q2⟩ => by
   rcases (h.post.os b _ hb).2 with ⟨i, hi⟩ | hi
   ·obtain ⟨hl, it', s, q3, q4, q5, q6⟩ := h.lent.sub hi
    rw [q1] at q6
    obtain rfl := Option.some.inj q6
    obtain rfl := uniq i it' q3 q4 q5
    exact q2 hl
   ·have := h.lent.inv.os b _ q1
    omega
  have hrest : ∀ b, c.O b = some (.cell id j) → ¬ L k b → w'.heap[b]? = c.w.heap[b]? ∧ ownAfter c its L O1 b = some (.cell id j) := fun b q1 q2 => by
   have hlt := h.lent.inv.os b _ q1
   have hnf : ∀ i, ¬ F i b := fun i hi => by
    obtain ⟨hl, it', s, q3, q4, q5, q6⟩ := h.lent.sub hi
    rw [q1] at q6
    obtain rfl := Option.some.inj q6
    obtain rfl := uniq i it' q3 q4 q5
    exact q2 hl
   refine ⟨h.post.same b hlt hnf, (ownAfter_old (h.o1none hlt hnf) hlt ?_).trans q1⟩
   rintro ⟨k', it', q3, q4, q5⟩
   obtain ⟨it'', _, _, _, s, g1, _, _, _, _, g6, g7⟩ := h.lent.at q5
   rw [q3] at g1
   obtain rfl := Option.some.inj g1
   rw [q1] at g7
   obtain rfl := Option.some.inj g7
   obtain rfl := uniq k' it' q3 q4 g6
   exact q2 q5
  have hownSome : ∀ b, ownAfter c its L O1 b = some (.cell id j) → (O1 b = some (.cell k 0) ∧ convS its k = some (.cell id j)) ∨ (c.O b = some (.cell id j) ∧ ¬ L k b) := fun b hb => by
   rcases ownAfter_some hb with ⟨k', q1, q2⟩ | ⟨n, q1, _⟩ | ⟨_, _, q3, q4⟩
   ·obtain ⟨it', q3, q4, q5⟩ := convS_site q2
    obtain rfl := uniq k' it' q3 q4 q5
    exact .inl ⟨q1, q2⟩
   ·cases q1
   ·exact .inr ⟨q4, fun hl => q3 ⟨k, it, hk, own1, hl⟩⟩
  cases it with
  | own id' j' st pc =>
   simp only [It.at, Option.some.injEq, Prod.mk.injEq] at hat
   obtain ⟨rfl, rfl⟩ := hat
   have nobox : ∀ (k0 : Nat) n, its[k0]? ≠ some (.box id' n) := fun k0 n hk0 => by
    obtain ⟨it', u2, q1, q2, _⟩ := rB k0 n hk0
    cases it' with
    | bown i1 j1 pc1 =>
     simp only [It.bcell, Option.some.injEq, Prod.mk.injEq] at q2
     obtain ⟨rfl, rfl⟩ := q2
     obtain rfl := uniq _ _ q1 rfl rfl
     rw [hk] at q1
     cases q1
    | blk i1 j1 pc1 =>
     simp only [It.bcell, Option.some.injEq, Prod.mk.injEq] at q2
     obtain ⟨rfl, rfl⟩ := q2
     exact h.lent.two k _ _ _ _ hk q1 own1 rfl own2 rfl
    | _ => cases q2
   have hrv' := rA nobox
   cases e with
   | val pc' =>
    cases xx with
    | some xx =>
     obtain ⟨rfl, b1, b2, b3, b4, b5, r', y0, d, k0, rv1, g1, g2, g3, g4, g5, g6, g7⟩ := a4
     rw [hr] at g1
     obtain rfl := Option.some.inj g1
     rw [hx] at g2
     obtain rfl := Option.some.inj g2
     rw [hrv] at g4
     obtain rfl := Option.some.inj g4
     rw [g3] at c2
     have c2 : Rep c.w c.Z k0.s d k0.x rv (fun b => c.O b = some (.cell id' j')) := c2
     have hnd : Nat.beq pc.d 0 = false := by
      cases hq : Nat.beq pc.d 0 with
      | false => rfl
      | true => exact absurd (Nat.eq_of_beq_eq_true hq) b3
     unfold newCell at hnc
     simp only [g3] at hnc
     cases hkept : pc.kept with
     | false =>
      obtain ⟨_, f2⟩ := ff k _ a1
      have hy0 := f2 (by simp [Ent.back, hkept])
      rw [hy] at hy0
      obtain rfl := Option.some.inj hy0
      simp only [hkept, cond_false, Option.some.injEq] at hnc
      subst hnc
      have hst : st = [] := b5.elim (fun q => by rw [hkept] at q; cases q) id
      refine ⟨rv, hrv', CellCh.bump (Nat.lt_succ_self _) (Nat.lt_succ_self _) fun q hq => (by rw [g3] at hq; cases hq), fun _ _ q => (by cases q), fun _ q => (by cases q), fun _ b hb => ?_, fun _ _ _ _ _ q => (by cases q)⟩
      rcases hownSome b hb with ⟨_, q2⟩ | ⟨q1, q2⟩
      ·unfold convS at q2
       rw [hk] at q2
       simp only [hkept, cond_false] at q2
       cases q2
      ·exact q2 (hfp.whole id' j' st pc rfl hst b q1)
     | true =>
      obtain ⟨f1, _⟩ := ff k _ a1
      obtain ⟨yv, hy0⟩ := f1 (by simp [Ent.back, hkept, hnd])
      rw [hy] at hy0
      obtain rfl := Option.some.inj hy0
      simp only [hkept, cond_true] at hnc
      have huu : u' = u := by
       have := flat_same h.lent.flat h.post.flat k (fun pc' hpc => by rw [a1] at hpc; cases hpc)
       rw [hu', a3] at this
       exact Option.some.inj this
      obtain ⟨o1, o2⟩ := hout
      obtain ⟨ysh, yx⟩ := yv
      simp only at o1 o2
      subst o1
      have o3 : Rep w' (zAfter g c Z1) pc.s pc.d2 yx u (fun b => O1 b = some (.cell k 0)) := h.deep (fun hh => holds_back hh a1 (by simp [Ent.back, hkept, hnd]) (.inl rfl)) o2
      have hconv : convS its k = some (.cell id' j') := by unfold convS; rw [hk]; simp only [hkept, cond_true]
      cases hz : setP k0.s k0.x st ⟨pc.s, yx⟩ with
      | none => rw [hz] at hnc; cases hnc
      | some z =>
       rw [hz] at hnc
       simp only at hnc
       have head : ∀ (d' : Nat) (G : Fp), Rep w' (zAfter g c Z1) k0.s d' z rv G → CellCh c.w w' rv rv x ⟨x.hv, x.iv + 1, .mk d' ⟨k0.s, z⟩⟩ := by
        intro d' G hrep
        refine ⟨Nat.le_refl _, Nat.le_succ _, fun _ cut v1 hro => ?_, fun q => absurd q (by simp), fun q => absurd q (by simp), fun q hq => (by rw [g3] at hq; cases hq)⟩
        unfold RefOk at hro ⊢
        simp only [g3] at hro
        simp only
        obtain ⟨v0, cs, xs', q1, q2, q3, q4, q5⟩ := hro
        obtain ⟨k0s, k0x⟩ := k0
        simp only [getP_nil, Option.some.injEq, CV.mk.injEq] at q3
        obtain ⟨rfl, q3⟩ := q3
        obtain rfl := eq_of_heq q3
        refine ⟨v0, cs, z, by simp only [inR], q2, getP_nil _ _, fun n hn => ?_, q5⟩
        rw [Rep.len_eq c2 hrep]
        exact q4 n hn
       cases st with
       | nil =>
        simp only [Option.some.injEq] at hnc
        subst hnc
        rw [setP_nil] at hz
        have hz2 := CV.as_some hz
        simp only [CV.mk.injEq] at hz2
        obtain ⟨hs2, hz3⟩ := hz2
        simp only [pv, Option.some.injEq] at g7
        subst g7
        obtain ⟨k0s, k0x⟩ := k0
        simp only at hs2
        subst hs2
        obtain rfl := eq_of_heq hz3
        have hfoot : (fun b => ownAfter c its L O1 b = some (.cell id' j')) = (fun b => O1 b = some (.cell k 0)) := by
         funext b
         apply propext
         constructor
         ·intro hb
          rcases hownSome b hb with ⟨q1, _⟩ | ⟨q1, q2⟩
          ·exact q1
          ·exact absurd (hfp.whole id' j' [] pc rfl rfl b q1) q2
         ·intro hb; exact (ownAfter_back hb).trans hconv
        refine ⟨rv, hrv', head _ _ o3, fun d1 e1 q => ?_, fun _ q => (by cases q), fun q => absurd rfl (q _ _), fun _ _ _ _ _ q => (by cases q)⟩
        simp only [Cell.mk.injEq] at q
        obtain ⟨rfl, rfl⟩ := q
        rw [hfoot]
        exact o3
       | cons q0 st =>
        simp only at hnc
        obtain ⟨hcond, hnc⟩ := cond_s hnc
        obtain rfl := Option.some.inj hnc
        have o4 : Rep w' (zAfter g c Z1) pc.s (d - (q0 :: st).length) yx u (fun b => O1 b = some (.cell k 0)) := by
         simp only [Bool.or_eq_true, Nat.beq_eq, Bool.and_eq_true, Nat.ble_eq] at hcond
         rcases hcond with hcond | ⟨q1, q2⟩
         ·rw [show d - (q0 :: st).length = pc.d2 by omega]; exact o3
         ·exact Rep.deep q1 (by omega) o3
        have hole := hfp.hole id' j' (q0 :: st) pc rfl (by simp) r x d k0 rv xx hr hx g3 hrv rfl
        obtain ⟨xs0, xx0⟩ := xx
        simp only at b1
        subst b1
        have hrep := hole w' (zAfter g c Z1) yx (fun b => O1 b = some (.cell k 0)) z hz (fun b hb => (hrest b hb.1 hb.2).1) (fun b hb => h.znext hb) (fun b hb => (h.zheap hb).1) o4 hH
        have hfoot : (fun b => ownAfter c its L O1 b = some (.cell id' j')) = (fun b => (c.O b = some (.cell id' j') ∧ ¬ L k b) ∨ O1 b = some (.cell k 0)) := by
         funext b
         apply propext
         constructor
         ·intro hb
          rcases hownSome b hb with ⟨q1, _⟩ | q1
          ·exact .inr q1
          ·exact .inl q1
         ·rintro (hb | hb)
          ·exact (hrest b hb.1 hb.2).2
          ·exact (ownAfter_back hb).trans hconv
        refine ⟨rv, hrv', head _ _ hrep, fun d1 e1 q => ?_, fun _ q => (by cases q), fun q => absurd rfl (q _ _), fun _ _ _ _ _ q => (by cases q)⟩
        simp only [Cell.mk.injEq] at q
        obtain ⟨rfl, rfl⟩ := q
        rw [hfoot]
        exact hrep
    | none => exact a4.elim
   | _ => exact a4.elim
  | bown id' j' pc =>
   simp only [It.at, Option.some.injEq, Prod.mk.injEq] at hat
   obtain ⟨rfl, rfl⟩ := hat
   obtain ⟨k0, n, q1, q2, q3⟩ := h.lent.box.up k _ id' j' hk rfl
   obtain ⟨it', u2, p1, p2, p3, p4, p5⟩ := rB k0 n q1
   rw [← q2] at p1 p3 p4
   rw [hu'] at p4
   obtain rfl := Option.some.inj p4
   cases e with
   | cell pc' =>
    cases xx with
    | some xx =>
     obtain ⟨rfl, b1, b2, r', y0, d, g1, g2, g3, g4, g5, g6⟩ := a4
     rw [hr] at g1
     obtain rfl := Option.some.inj g1
     rw [hx] at g3
     obtain rfl := Option.some.inj g3
     obtain ⟨f1, _⟩ := ff k _ a1
     obtain ⟨yv, hy0⟩ := f1 b1
     rw [hy] at hy0
     obtain rfl := Option.some.inj hy0
     obtain ⟨o1, o2⟩ := hout
     obtain ⟨ysh, yx⟩ := yv
     simp only at o1 o2
     subst o1
     have o3 : Rep w' (zAfter g c Z1) pc.s pc.d2 yx u' (fun b => O1 b = some (.cell k 0)) := h.deep (fun hh => holds_back hh a1 b1 (.inr rfl)) o2
     unfold newCell at hnc
     simp only [CV.as_self, Option.some.injEq] at hnc
     subst hnc
     have hconv : convS its k = some (.cell id' j') := by unfold convS; rw [hk]
     have hfoot : (fun b => ownAfter c its L O1 b = some (.cell id' j')) = (fun b => O1 b = some (.cell k 0)) := by
      funext b
      apply propext
      constructor
      ·intro hb
       rcases hownSome b hb with ⟨q1, _⟩ | ⟨q1, q2⟩
       ·exact q1
       ·exact absurd (hfp.wholeB id' j' pc rfl b q1) q2
      ·intro hb; exact (ownAfter_back hb).trans hconv
     refine ⟨u', p5, CellCh.bump (Nat.lt_succ_self _) (Nat.lt_succ_self _) fun q hq => (by rw [g4] at hq; cases hq), fun d1 e1 q => ?_, fun _ q => (by cases q), fun q => absurd rfl (q _ _), fun _ _ _ _ _ q => (by cases q)⟩
     simp only [Cell.mk.injEq] at q
     obtain ⟨rfl, rfl⟩ := q
     rw [hfoot]
     cases hrow : pc.s.isRow with
     | true => exact o3
     | false =>
      have hd : pc.s.depth = 0 := by cases hq : pc.s <;> first | rfl | (rw [hq] at hrow; cases hrow)
      exact Rep.deep (s := pc.s) (by rw [hd]; exact Nat.zero_le _) (by rw [hd]; exact Nat.zero_le _) o3
    | none => exact a4.elim
   | _ => exact a4.elim
  | _ => cases hat
 ·have hex : ∀ (k : Nat) it, its[k]? = some it → it.at ≠ some (id, j) := fun k it q1 q2 => hex ⟨k, it, q1, q2⟩
  obtain rfl := hold hex
  have hno : NoOwn its (.cell id j) := fun k it q1 q2 q3 => hex k it q1 (It.at_site q2 q3)
  have hrv' : PV.rootVal w' r2 (c.γ id) j = some rv := by
   by_cases hbx : ∃ (k n : Nat), its[k]? = some (.box id n)
   ·obtain ⟨k, n, hk⟩ := hbx
    obtain ⟨it', u', p1, p2, p3, p4, p5⟩ := rB k n hk
    cases it' with
    | bown i1 j1 pc1 =>
     simp only [It.bcell, Option.some.injEq, Prod.mk.injEq] at p2
     obtain ⟨rfl, rfl⟩ := p2
     exact absurd rfl (hex _ _ p1)
    | blk i1 j1 pc1 =>
     simp only [It.bcell, Option.some.injEq, Prod.mk.injEq] at p2
     obtain ⟨rfl, rfl⟩ := p2
     obtain ⟨e, xx, u, a1, a2, a3, a4⟩ := h.lent.all.at _ _ p1
     cases e with
     | cell pc' =>
      cases xx with
      | some xx =>
       obtain ⟨rfl, b1, _⟩ := a4
       have hy : ys[k + 1 + j1]? = some none := (ff _ _ a1).2 b1
       rw [p3] at a3
       obtain rfl := Option.some.inj a3
       have hout : u' = rv := hback _ _ _ _ _ a1 hy p3 p4
       rw [hout] at p5
       exact p5
      | none => exact a4.elim
     | _ => exact a4.elim
    | _ => cases p2
   ·exact rA fun k n hk => hbx ⟨k, n, hk⟩
  have hfoot : (fun b => ownAfter c its L O1 b = some (.cell id j)) = (fun b => c.O b = some (.cell id j)) := by
   funext b; exact propext (h.same_own (by simp) hno b)
  have hheap : ∀ b, c.O b = some (.cell id j) ∨ c.Z b → w'.heap[b]? = c.w.heap[b]? := fun b hb => hb.elim (fun hb => (h.keep hb hno).1) fun hb => (h.zheap hb).1
  refine ⟨rv, hrv', CellCh.same (Z := c.Z) (F := fun b => c.O b = some (.cell id j)) (fun d e q => by rw [q] at c2; exact c2) hheap, fun d e q => ?_, fun e q => ?_, fun q b hb => ?_, fun _ _ _ _ _ _ => ⟨rfl, rfl⟩⟩
  ·rw [hfoot]
   rw [q] at c2
   exact Rep.frame (fun b hb => h.znext hb) (show Rep c.w c.Z e.s d e.x rv (fun b => c.O b = some (.cell id j)) from c2) hheap
  ·rw [q] at c2
   exact Rep.frame (fun b hb => h.znext hb) c2.1 fun b hb => hb.elim (fun hb => hb.elim) fun hb => (h.zheap hb).1
  ·have hb := (h.same_own (s := .cell id j) (by simp) hno b).1 hb
   cases hxc : x2.c with
   | mk d e => exact q d e hxc
   | lk e => rw [hxc] at c2; exact c2.2 b hb
   | any => rw [hxc] at c2; exact c2 b hb
   | al => rw [hxc] at c2; exact c2.1 b hb
end
end Go.PV

namespace Go.PV
section
variable {c : Cf} {g : Sig} {its : List It} {xs : List (Option CV)} {vs us us' : List Value} {L F : Nat → Fp} {w' : World} {out : TupT g.outs} {v : Value} {O1 : Own} {Z1 : Fp} {ys : List (Option CV)} {rt2 : Rt}
noncomputable abbrev after (c : Cf) (g : Sig) (its : List It) (L : Nat → Fp) (w' : World) (O1 : Own) (Z1 : Fp) (rt2 : Rt) : Cf := ⟨rt2, w', c.γ, ownAfter c its L O1, zAfter g c Z1⟩
theorem Came.uniq (h : Came c g its xs vs us us' L F w' out v O1 Z1 ys rt2) : ∀ (k k' : Nat) it it' q, its[k]? = some it → its[k']? = some it' → it.at = some q → it'.at = some q → k = k' := by
 intro k k' it it' q h1 h2 h3 h4
 obtain ⟨id, j⟩ := q
 obtain ⟨a1, a2⟩ := It.site_at h3
 obtain ⟨b1, b2⟩ := It.site_at h4
 exact h.lent.one k k' it it' _ h1 h2 a1 b1 a2 b2
theorem Came.chg (h : Came c g its xs vs us us' L F w' out v O1 Z1 ys rt2) : Chg c (after c g its L w' O1 Z1 rt2) := by
 obtain ⟨_, b2, b3⟩ := back_spec h.back h.uniq
 refine ⟨fun b hb => h.znext hb, fun b hb => (h.zheap hb).1, fun id r hr => ?_⟩
 obtain ⟨r2, g1, g2, g3, g4⟩ := b3 id r hr
 refine ⟨r2, g1, g2, rfl, fun j x rv hx hrv => ?_⟩
 obtain ⟨x2, k1, k2, k3⟩ := g4 j x hx
 obtain ⟨rv', m1, m2, _⟩ := h.cell hr g2 hx k2 k3 hrv
 exact ⟨x2, rv', k1, m1, m2⟩
theorem Came.inv (h : Came c g its xs vs us us' L F w' out v O1 Z1 ys rt2) : (after c g its L w' O1 Z1 rt2).Inv := by
 obtain ⟨_, b2, b3⟩ := back_spec h.back h.uniq
 obtain ⟨ys', hys', hback⟩ := h.post.back
 rw [h.fill] at hys'
 obtain rfl := Option.some.inj hys'
 obtain ⟨fl, ff⟩ := fill_at h.fill
 have boxIn : ∀ (k : Nat) id n, its[k]? = some (It.box id n) → ∃ r b, c.rt id = some r ∧ r.virt = false ∧ r.cells.length = n ∧ c.γ id = .pointer (some ⟨b, 0, none⟩) ∧ us[k]? = some (.pointer (some ⟨b, 0, none⟩)) ∧ (ents g.ps)[k]? = some (.box n) := fun k id n hk => by
  obtain ⟨e, x', u, h1, h2, h3, h4⟩ := h.lent.all.at k _ hk
  cases e with
  | box m =>
   cases x' with
   | none =>
    obtain ⟨rfl, r, b, g1, g2, g3, g4, g5⟩ := h4
    exact ⟨r, b, g1, g2, g3, g4.trans g5, by rw [h3, g5], h1⟩
   | some _ => exact h4.elim
  | _ => exact h4.elim
 have cellIn : ∀ (k : Nat) it id j, its[k]? = some it → it.at = some (id, j) → ∃ r x, c.rt id = some r ∧ r.cells[j]? = some x := fun k it id j hk hat => by
  obtain ⟨e, x', u, h1, h2, h3, h4⟩ := h.lent.all.at k _ hk
  cases it with
  | own id' j' st pc =>
   simp only [It.at, Option.some.injEq, Prod.mk.injEq] at hat
   obtain ⟨rfl, rfl⟩ := hat
   cases e with
   | val pc' =>
    cases x' with
    | some x' =>
     obtain ⟨_, _, _, _, _, _, r, y, d, k0, rv, g1, g2, _⟩ := h4
     exact ⟨r, y, g1, g2⟩
    | none => exact h4.elim
   | _ => exact h4.elim
  | bown id' j' pc =>
   simp only [It.at, Option.some.injEq, Prod.mk.injEq] at hat
   obtain ⟨rfl, rfl⟩ := hat
   cases e with
   | cell pc' =>
    cases x' with
    | some x' =>
     obtain ⟨_, _, _, r, y, d, g1, _, g2, _⟩ := h4
     exact ⟨r, y, g1, g2⟩
    | none => exact h4.elim
   | _ => exact h4.elim
  | _ => cases hat
 have back : ∀ id r2, rt2 id = some r2 → ∃ r, c.rt id = some r ∧ r2.virt = r.virt ∧ r2.cells.length = r.cells.length ∧ ∀ (j : Nat) x, r.cells[j]? = some x → ∃ x2, r2.cells[j]? = some x2 ∧
   ((∀ (k : Nat) it, its[k]? = some it → it.at ≠ some (id, j)) → x2 = x) ∧ ∀ (k : Nat) it y, its[k]? = some it → ys[k]? = some y → it.at = some (id, j) → newCell it x y = some x2 := fun id r2 hr2 => by
  cases hr : c.rt id with
  | none => rw [b2 id hr] at hr2; cases hr2
  | some r =>
   obtain ⟨r2', g1, g2, g3, g4⟩ := b3 id r hr
   rw [hr2] at g1
   obtain rfl := Option.some.inj g1
   exact ⟨r, rfl, g2, g3, g4⟩
 refine ⟨fun id r2 hr2 => ?_, fun b hb => (h.znone hb).1, fun b hb => (h.znone hb).2.1, fun b s hb => ?_, fun b id j hb => ?_, fun b id hb => ?_⟩
 ·obtain ⟨r, hr, g2, g3, g4⟩ := back id r2 hr2
  have hk := h.lent.inv.root id r hr
  refine ⟨fun hv => ⟨by rw [g3]; exact (hk.virt (g2.symm.trans hv)).1, fun b hb => ?_⟩, fun hv => ?_, fun j x2 hx2 => ?_, fun j hj b hb => ?_⟩
  ·rcases ownAfter_some hb with ⟨k, _, q2⟩ | ⟨n, q1, _⟩ | ⟨_, _, _, q4⟩
   ·obtain ⟨it, q3, q4, q5⟩ := convS_site q2
    cases it <;> simp only [It.owns, It.site, Option.some.injEq, reduceCtorEq, Site.box.injEq, Bool.false_eq_true] at q4 q5
    subst q5
    obtain ⟨r', _, m1, m2, _⟩ := boxIn k _ _ q3
    rw [hr] at m1
    obtain rfl := Option.some.inj m1
    rw [← g2, hv] at m2
    cases m2
   ·cases q1
   ·exact (hk.virt (g2.symm.trans hv)).2 b q4
  ·obtain ⟨b, ca, E, fz, f1, f2, f3, f4, f5⟩ := hk.box (g2.symm.trans hv)
   by_cases hbx : ∃ (k n : Nat), its[k]? = some (.box id n)
   ·obtain ⟨k, n, hk0⟩ := hbx
    obtain ⟨r', b', m1, m2, m3, m4, m5, m6⟩ := boxIn k id n hk0
    rw [hr] at m1
    obtain rfl := Option.some.inj m1
    rw [f1] at m4
    obtain rfl : b = b' := by simpa using m4
    obtain ⟨b1, E', fz', p1, p2, p3, p4⟩ := flat_box h.post.flat k n m6
    have hb1 : b1 = b := by
     have := flat_same h.lent.flat h.post.flat k (fun pc hpc => by rw [m6] at hpc; cases hpc)
     rw [p1, m5] at this
     simpa using this
    subst hb1
    refine ⟨b1, _, E', fz', f1, p2, by simp only [List.size_toArray, p4, g3, m3], by simp only [List.size_toArray, p4]; exact p3, fun b' => ?_⟩
    have hyk : ∃ y, ys[k]? = some y := by
     have : k < ys.length := by rw [fl]; exact (List.getElem?_eq_some_iff.1 m6).1
     exact ⟨ys[k], by simp [this]⟩
    obtain ⟨y, hy⟩ := hyk
    have hout := hback k _ y _ _ m6 hy m5 p1
    have hH : ∃ b, (.pointer (some ⟨b1, 0, none⟩) : Value) = .pointer (some ⟨b, 0, none⟩) ∧ (fun b' => O1 b' = some (.cell k 0)) = fun b' => b' = b := hout
    obtain ⟨b3, q1, q2⟩ := hH
    obtain rfl : b1 = b3 := by simpa using q1
    have q2' : ∀ b', O1 b' = some (.cell k 0) ↔ b' = b1 := fun b' => by have := congrFun q2 b'; simpa using this
    constructor
    ·intro hb
     rcases ownAfter_some hb with ⟨k', e1, e2⟩ | ⟨n', e1, _⟩ | ⟨_, _, e3, e4⟩
     ·obtain ⟨it, e3, e4, e5⟩ := convS_site e2
      obtain rfl := h.lent.one k' k it _ _ e3 hk0 e4 rfl e5 rfl
      exact (q2' b').1 e1
     ·cases e1
     ·have := (f5 b').1 e4
      subst this
      exfalso
      obtain ⟨e, x', u, a1, a2, a3, a4⟩ := h.lent.all.at k _ hk0
      exact e3 ⟨k, _, hk0, rfl, (h.lent.fp k _ e x' u hk0 a1 a2 a3).wholeX id n rfl b' e4⟩
    ·intro hb
     refine (ownAfter_back ((q2' b').2 hb)).trans ?_
     unfold convS
     rw [hk0]
   ·have hno : NoOwn its (.box id) := fun k it q1 q2 q3 => by
     cases it <;> simp only [It.owns, It.site, Option.some.injEq, reduceCtorEq, Site.box.injEq, Bool.false_eq_true] at q2 q3
     subst q3
     exact hbx ⟨k, _, q1⟩
    exact ⟨b, ca, E, fz, f1, ((h.keep ((f5 b).2 rfl) hno).1).trans f2, by rw [f3, g3], f4, fun b' => (h.same_own (by simp) hno b').trans (f5 b')⟩
  ·have hjlt : j < r.cells.length := by rw [← g3]; exact (List.getElem?_eq_some_iff.1 hx2).1
   have hx : r.cells[j]? = some r.cells[j] := by simp [hjlt]
   obtain ⟨x2', k1, k2, k3⟩ := g4 j _ hx
   rw [hx2] at k1
   obtain rfl := Option.some.inj k1
   obtain ⟨rv, m1, m2⟩ := hk.cell j _ hx
   obtain ⟨rv', n1, n2, n3⟩ := h.cell hr g2 hx k2 k3 m1
   refine ⟨rv', n1, ?_⟩
   cases hxc : x2.c with
   | mk d e => exact n3.own d e hxc
   | lk e => exact ⟨n3.lk e hxc, n3.no fun d e' q => by rw [hxc] at q; cases q⟩
   | any => exact n3.no fun d e' q => by rw [hxc] at q; cases q
   | al a b st cut n =>
    obtain ⟨q1, rfl⟩ := n3.al a b st cut n hxc
    rw [q1, hxc] at m2
    exact ⟨n3.no fun d e' q => (by rw [hxc] at q; cases q), h.chg.stb _ _ m2.2⟩
  ·rw [g3] at hj
   rcases ownAfter_some hb with ⟨k, _, q2⟩ | ⟨n, q1, _⟩ | ⟨_, _, _, q4⟩
   ·obtain ⟨it, q3, q4, q5⟩ := convS_site q2
    obtain ⟨r', x', m1, m2⟩ := cellIn k it id j q3 (It.at_site q4 q5)
    rw [hr] at m1
    obtain rfl := Option.some.inj m1
    have := (List.getElem?_eq_some_iff.1 m2).1
    omega
   ·cases q1
   ·exact hk.beyond j hj b q4
 ·rcases ownAfter_some hb with ⟨k, q1, _⟩ | ⟨n, _, q1⟩ | ⟨_, q2, _, _⟩
  ·exact (h.post.os b _ q1).1
  ·exact (h.post.os b _ q1).1
  ·exact Nat.lt_of_lt_of_le q2 h.post.size
 ·have key : c.rt id ≠ none := by
   rcases ownAfter_some hb with ⟨k, _, q2⟩ | ⟨n, q1, _⟩ | ⟨_, _, _, q4⟩
   ·obtain ⟨it, q3, q4, q5⟩ := convS_site q2
    obtain ⟨r', x', m1, m2⟩ := cellIn k it id j q3 (It.at_site q4 q5)
    rw [m1]; simp
   ·cases q1
   ·exact h.lent.inv.oi b id j q4
  cases hr : c.rt id with
  | none => exact absurd hr key
  | some r => obtain ⟨r2, g1, _⟩ := b3 id r hr; show rt2 id ≠ none; rw [g1]; simp
 ·have key : c.rt id ≠ none := by
   rcases ownAfter_some hb with ⟨k, _, q2⟩ | ⟨n, q1, _⟩ | ⟨_, _, _, q4⟩
   ·obtain ⟨it, q3, q4, q5⟩ := convS_site q2
    cases it <;> simp only [It.owns, It.site, Option.some.injEq, reduceCtorEq, Site.box.injEq, Bool.false_eq_true] at q4 q5
    subst q5
    obtain ⟨r', _, m1, _⟩ := boxIn k _ _ q3
    rw [m1]; simp
   ·cases q1
   ·exact h.lent.inv.ob b id q4
  cases hr : c.rt id with
  | none => exact absurd hr key
  | some r => obtain ⟨r2, g1, _⟩ := b3 id r hr; show rt2 id ≠ none; rw [g1]; simp
theorem Came.to (h : Came c g its xs vs us us' L F w' out v O1 Z1 ys rt2) : To c (after c g its L w' O1 Z1 rt2) := by
 obtain ⟨_, b2, b3⟩ := back_spec h.back h.uniq
 refine ⟨h.inv, h.chg.lk, h.chg.stb, h.post.size, fun b hb hn => ?_, fun b hb => h.znext hb, fun b hb => (h.znone hb).2.2, fun id hid => ?_, h.post.env⟩
 ·have hnf : ∀ i, ¬ F i b := fun i hi => by
   obtain ⟨_, it, s, _, _, _, q⟩ := h.lent.sub hi
   rw [hn] at q; cases q
  exact ⟨h.post.same b hb hnf, ownAfter_none (h.o1none hb hnf) fun _ _ => hn⟩
 ·cases hr : c.rt id with
  | none => exact absurd hr hid
  | some r => obtain ⟨r2, g1, _⟩ := b3 id r hr; show rt2 id ≠ none; rw [g1]; simp
theorem after_det {b n : Nat} : ownAfter c its L O1 b = some (.det n) → O1 b = some (.det n) ∨ c.O b = some (.det n) := fun hb => by
 rcases ownAfter_some hb with ⟨k, _, q2⟩ | ⟨m, q1, q2⟩ | ⟨_, _, _, q4⟩
 ·obtain ⟨it, _, q4, q5⟩ := convS_site q2
  cases it <;> simp [It.site] at q5
 ·cases q1; exact .inl q2
 ·exact .inr q4
end
theorem row_to' {c : Cf} (hc : c.Inv) {id : Nat} (hid : c.rt id = none) {cs : SS} {d : Nat} {xs : List cs.T} {v : Value} {k : Nat} (hp : Rep c.w c.Z (.row cs) d xs v (fun b => c.O b = some (.det k))) :
  ∃ O', To c ⟨setRt c.rt id ⟨true, [⟨0, 0, .mk d ⟨.row cs, xs⟩⟩]⟩, c.w, upd c.γ id v, O', c.Z⟩ ∧ (∀ b n, O' b = some (.det n) ↔ c.O b = some (.det n) ∧ n ≠ k) ∧
   PRep1 (setRt c.rt id ⟨true, [⟨0, 0, .mk d ⟨.row cs, xs⟩⟩]⟩) c.w (upd c.γ id v) c.Z (.ref id 0 [] none 0) v := by
 obtain ⟨O', ⟨i1, l1, s1⟩, oN, oS⟩ := attach_to hc (id := id) hid (r := ⟨true, [⟨0, 0, .mk d ⟨.row cs, xs⟩⟩]⟩) (g := v) (fun j b => j = 0 ∧ c.O b = some (.det k)) nil'
  (fun j b h => ⟨k, h.2⟩) (fun i j b h1 h2 => h1.1.trans h2.1.symm) (fun _ => ⟨rfl, fun _ h => h⟩) (fun h => by cases h) (fun j b h => by simp [h.1]) (fun j x hx => by
   cases j with
   | zero =>
    simp only [List.getElem?_cons_zero, Option.some.injEq] at hx
    subst hx
    refine ⟨v, rfl, ?_⟩
    show Rep c.w c.Z (.row cs) d xs v (fun b => 0 = 0 ∧ c.O b = some (.det k))
    have : (fun b => (0 : Nat) = 0 ∧ c.O b = some (.det k)) = (fun b => c.O b = some (.det k)) := by funext b; simp
    rw [this]
    exact hp
   | succ j => simp at hx)
 refine ⟨O', To.attach (To.refl hc) i1 l1 s1 rfl rfl (fun i h => setRt_some h) (fun b hb hn => ?_), fun b n => ⟨fun hb => ?_, fun hb => ?_⟩, ⟨_, ⟨0, 0, .mk d ⟨.row cs, xs⟩⟩, v, setRt_self, rfl, ?_, ⟨Nat.le_refl _, (Rep.slice hp).1 rfl⟩, fun _ => ?_⟩⟩
 ·exact (oN b (fun j h => by rw [hn] at h; cases h.2) (fun h => h)).trans hn
 ·rcases oS b _ hb with ⟨j, e, _⟩ | ⟨e, _⟩ | ⟨e, hne, _⟩
  ·cases e
  ·cases e
  ·exact ⟨e, fun hk => hne 0 ⟨rfl, by rw [← hk]; exact e⟩⟩
 ·rw [oN b (fun j h => by rw [hb.1] at h; simp only [Option.some.injEq, Site.det.injEq] at h; exact hb.2 h.2) (fun h => h)]
  exact hb.1
 ·simp [PV.rootVal, upd]
 ·exact ⟨v, cs, xs, by simp only [inR], rfl, getP_nil _ _, (fun n h => by cases h), (cutV_none v).symm⟩
theorem ResC.len {w : World} {Z : Fp} {O : Own} : ∀ {l : List (S × Nat)} {i : Nat} {cs : List CV} {us : List Value}, ResC w Z O l i cs us → cs.length = l.length ∧ us.length = l.length
 | [], _, [], [], _ => ⟨rfl, rfl⟩
 | (s, d) :: l, i, c :: cs, u :: us, h => by
  obtain ⟨_, _, h⟩ := h
  obtain ⟨h1, h2⟩ := ResC.len h
  simp [h1, h2]
theorem ResC.map {w : World} {Z Z' : Fp} {O O' : Own} : ∀ {l : List (S × Nat)} {i : Nat} {cs : List CV} {us : List Value}, (∀ k, i ≤ k → k < i + l.length → ∀ b, O' b = some (.det (2 * k)) ↔ O b = some (.det (2 * k))) → (∀ s d, (s, d) ∈ l → ∀ (x : s.T) u G, Rep w Z s d x u G → Rep w Z' s d x u G) → ResC w Z O l i cs us → ResC w Z' O' l i cs us
 | [], _, [], [], _, _, _ => trivial
 | (s, d) :: l, i, c :: cs, u :: us, hO, hZ, h => by
  obtain ⟨h1, h2, h3⟩ := h
  obtain ⟨cs0, cx⟩ := c
  simp only at h1
  subst h1
  have e : (fun b => O' b = some (.det (2 * i))) = (fun b => O b = some (.det (2 * i))) := by funext b; exact propext (hO i (Nat.le_refl _) (by simp) b)
  refine ⟨rfl, by rw [e]; exact hZ _ d (by simp) _ _ _ h2, ResC.map (fun k h1 h2 b => hO k (by omega) (by simp only [List.length_cons]; omega) b) (fun s d hm => hZ s d (by simp [hm])) h3⟩
theorem ResC.at {w : World} {Z : Fp} {O : Own} : ∀ {l : List (S × Nat)} {i : Nat} {cs : List CV} {us : List Value}, ResC w Z O l i cs us → ∀ (j : Nat) s d, l[j]? = some (s, d) → ∃ c u, cs[j]? = some c ∧ us[j]? = some u ∧ c.s = s ∧ Rep w Z c.s d c.x u (fun b => O b = some (.det (2 * (i + j))))
 | [], _, [], [], _, j, _, _, hj => by simp at hj
 | (s, d) :: l, i, c :: cs, u :: us, h, 0, s', d', hj => by
  simp only [List.getElem?_cons_zero, Option.some.injEq, Prod.mk.injEq] at hj
  obtain ⟨rfl, rfl⟩ := hj
  exact ⟨c, u, rfl, rfl, h.1, h.2.1⟩
 | (s, d) :: l, i, c :: cs, u :: us, h, j + 1, s', d', hj => by
  simp only [List.getElem?_cons_succ] at hj ⊢
  obtain ⟨c', u', h1, h2, h3, h4⟩ := ResC.at h.2.2 j s' d' hj
  exact ⟨c', u', h1, h2, h3, by rw [show i + (j + 1) = i + 1 + j by omega]; exact h4⟩
theorem ResR.map {w : World} {Z Z' : Fp} {O O' : Own} : ∀ {rs : List (RK × List (S × Nat))} {i : Nat} {cs : List CV} {vs : List Value}, (∀ k, 2 * i ≤ k → ∀ b, O' b = some (.det k) ↔ O b = some (.det k)) → (∀ s d, (s, d) ∈ rs.flatMap (·.2) → ∀ (x : s.T) u G, Rep w Z s d x u G → Rep w Z' s d x u G) → ResR w Z O rs i cs vs → ResR w Z' O' rs i cs vs
 | [], _, [], [], _, _, _ => trivial
 | (k, l) :: rs, i, cs, v :: vs, hO, hZ, h => by
  obtain ⟨c1, c2, us, h1, h2, h0, h3, h4⟩ := h
  refine ⟨c1, c2, us, h1, ResC.map (fun k h1 h2 b => hO _ (by omega) b) (fun s d hm => hZ s d (by simp [hm])) h2, fun b k' hk1 hk2 hb => h0 b k' hk1 hk2 ((hO _ (by omega) b).1 hb), ?_, ResR.map (fun k hk b => hO k (by omega) b) (fun s d hm => hZ s d (by rw [List.flatMap_cons, List.mem_append]; exact .inr hm)) h4⟩
  cases k with
  | one => exact h3
  | agg => exact h3
  | ptr =>
   obtain ⟨b, E, fz, g1, g2, g3, g4⟩ := h3
   exact ⟨b, E, fz, g1, g2, g3, fun b' => (hO _ (by omega) b').trans (g4 b')⟩
theorem resCells_to {t : Nat} : ∀ {l : List (S × Nat)} {i : Nat} {c1 c2 : List CV} {us : List Value} {c : Cf} {ps : List P} {i' : Nat} {rt' : Rt} {cs' : List CV}, c.Inv → ResC c.w c.Z c.O l i c1 us → resCells c.rt t l i (c1 ++ c2) = some (ps, i', rt', cs') →
  ∃ γ' O', To c ⟨rt', c.w, γ', O', c.Z⟩ ∧ cs' = c2 ∧ i' = i + l.length ∧ ps.length = us.length ∧ (∀ (n : Nat) p u, ps[n]? = some p → us[n]? = some u → PRep1 rt' c.w γ' c.Z p u) ∧
   ∀ b n, O' b = some (.det n) ↔ c.O b = some (.det n) ∧ ∀ k, i ≤ k → k < i + l.length → n ≠ 2 * k
 | [], i, [], c2, [], c, ps, i', rt', cs', hc, hr, h => by
  simp only [resCells, List.nil_append, Option.some.injEq, Prod.mk.injEq] at h
  obtain ⟨rfl, rfl, rfl, rfl⟩ := h
  exact ⟨c.γ, c.O, To.refl hc, rfl, rfl, rfl, fun n p u hp => by simp at hp, fun b n => ⟨fun h => ⟨h, fun k h1 h2 => by simp at h2; omega⟩, fun h => h.1⟩⟩
 | (s, d) :: l, i, cv :: c1, c2, u :: us, c, ps, i', rt', cs', hc, hr, h => by
  obtain ⟨h1, h2, h3⟩ := hr
  obtain ⟨cs0, cx⟩ := cv
  simp only at h1
  subst h1
  simp only [List.cons_append, resCells] at h
  cases hb : (cs0.isRow && !(Nat.beq d 0)) with
  | true =>
   rw [hb] at h
   simp only at h
   cases cs0 with
   | row cs =>
    split at h
    ·rename_i rt1 hn
     obtain ⟨hid, rfl⟩ := newRoot_some hn
     obtain ⟨O1, t1, o1, p1⟩ := row_to' hc hid h2
     split at h
     ·rename_i ps2 r hrc
      obtain ⟨i2, rt2, cs2⟩ := r
      simp only [Option.some.injEq, Prod.mk.injEq] at h
      obtain ⟨rfl, rfl, rfl, rfl⟩ := h
      obtain ⟨γ', O', k1, k2, k3, k4, k5, k6⟩ := resCells_to (c := ⟨_, c.w, upd c.γ (fresh t i) u, O1, c.Z⟩) t1.inv (ResC.map (fun k hk1 hk2 b => (o1 b _).trans ⟨fun h => h.1, fun h => ⟨h, by omega⟩⟩) (fun _ _ _ _ _ _ h => h) h3) hrc
      refine ⟨γ', O', t1.trans k1, k2, by rw [k3, List.length_cons]; omega, by simp [k4], fun n p u' hp hu => ?_, fun b n => ?_⟩
      ·cases n with
       | zero =>
        simp only [List.getElem?_cons_zero, Option.some.injEq] at hp hu
        subst hp
        subst hu
        exact k1.stb _ _ p1
       | succ n => exact k5 n p u' (by simpa using hp) (by simpa using hu)
      ·rw [k6, o1]
       constructor
       ·rintro ⟨⟨q1, q2⟩, q3⟩
        refine ⟨q1, fun k hk1 hk2 => ?_⟩
        rcases Nat.eq_or_lt_of_le hk1 with rfl | hlt
        ·exact q2
        ·exact q3 k hlt (by simp only [List.length_cons] at hk2; omega)
       ·rintro ⟨q1, q2⟩
        exact ⟨⟨q1, q2 i (Nat.le_refl _) (by simp)⟩, fun k hk1 hk2 => q2 k (by omega) (by simp only [List.length_cons]; omega)⟩
     ·cases h
    ·cases h
   | _ => cases hb
  | false =>
   rw [hb] at h
   simp only at h
   have hnil : Rep c.w c.Z cs0 0 cx u nil' ∧ ∀ b, c.O b ≠ some (.det (2 * i)) := by
    simp only [Bool.and_eq_false_imp, Bool.not_eq_false', Nat.beq_eq] at hb
    cases hrow : cs0.isRow with
    | true =>
     have hd := hb hrow
     subst hd
     have e := h2.ro_nil'
     rw [e] at h2
     exact ⟨h2, fun b hbb => by have := congrFun e b; simp only [nil', eq_iff_iff, iff_false] at this; exact this hbb⟩
    | false =>
     have e := Rep.flat_nil hrow h2
     rw [e] at h2
     have hd : cs0.depth = 0 := by cases cs0 <;> first | rfl | cases hrow
     exact ⟨Rep.deep (by omega) (by omega) h2, fun b hbb => by have := congrFun e b; simp only [nil', eq_iff_iff, iff_false] at this; exact this hbb⟩
   split at h
   ·rename_i ps2 r hrc
    obtain ⟨i2, rt2, cs2⟩ := r
    simp only [Option.some.injEq, Prod.mk.injEq] at h
    obtain ⟨rfl, rfl, rfl, rfl⟩ := h
    obtain ⟨γ', O', k1, k2, k3, k4, k5, k6⟩ := resCells_to hc h3 hrc
    refine ⟨γ', O', k1, k2, by rw [k3, List.length_cons]; omega, by simp [k4], fun n p u' hp hu => ?_, fun b n => ?_⟩
    ·cases n with
     | zero =>
      simp only [List.getElem?_cons_zero, Option.some.injEq] at hp hu
      subst hp
      subst hu
      exact k1.stb (.cv ⟨cs0, cx⟩) u hnil.1
     | succ n => exact k5 n p u' (by simpa using hp) (by simpa using hu)
    ·rw [k6]
     constructor
     ·rintro ⟨q1, q3⟩
      refine ⟨q1, fun k hk1 hk2 => ?_⟩
      rcases Nat.eq_or_lt_of_le hk1 with rfl | hlt
      ·intro e; subst e; exact hnil.2 b q1
      ·exact q3 k hlt (by simp only [List.length_cons] at hk2; omega)
     ·rintro ⟨q1, q2⟩
      exact ⟨q1, fun k hk1 hk2 => q2 k (by omega) (by simp only [List.length_cons]; omega)⟩
   ·cases h
theorem boxOf_at : ∀ {l : List (S × Nat)} {c1 c2 : List CV} {vs : List VC} {cs' : List CV}, c1.length = l.length → boxOf l (c1 ++ c2) = some (vs, cs') → cs' = c2 ∧ vs.length = l.length ∧ ∀ (j : Nat) x, vs[j]? = some x → ∃ s d cv, l[j]? = some (s, d) ∧ c1[j]? = some cv ∧ x = ⟨0, 0, .mk d cv⟩
 | [], [], c2, vs, cs', _, h => by
  simp only [boxOf, List.nil_append, Option.some.injEq, Prod.mk.injEq] at h
  obtain ⟨rfl, rfl⟩ := h
  exact ⟨rfl, rfl, fun j x hx => by simp at hx⟩
 | [], _ :: _, _, _, _, hl, _ => by cases hl
 | _ :: _, [], _, _, _, hl, _ => by cases hl
 | (s, d) :: l, cv :: c1, c2, vs, cs', hl, h => by
  simp only [List.cons_append, boxOf] at h
  split at h
  ·rename_i vs2 r hb
   simp only [Option.some.injEq, Prod.mk.injEq] at h
   obtain ⟨rfl, rfl⟩ := h
   obtain ⟨h1, h2, h3⟩ := boxOf_at (by simpa using hl) hb
   refine ⟨h1, by simp [h2], fun j x hx => ?_⟩
   cases j with
   | zero =>
    simp only [List.getElem?_cons_zero, Option.some.injEq] at hx
    exact ⟨s, d, cv, rfl, rfl, hx.symm⟩
   | succ j => exact h3 j x (by simpa using hx)
  ·cases h
theorem PRepA.stb {c c' : Cf} {p : P} {u : Value} (st : ∀ p v, c.P1 p v → c'.P1 p v) (hp : PRepA c.rt c.w c.γ c.Z p u) : PRepA c'.rt c'.w c'.γ c'.Z p u := by
 cases p with
 | agg l => obtain ⟨ws, e1, e2, e3⟩ := hp; exact ⟨ws, e1, e2, fun i p u hp hu => st p u (e3 i p u hp hu)⟩
 | dead => exact st .dead u hp
 | und => exact st .und u hp
 | cv k => exact st (.cv k) u hp
 | e => exact st .e u hp
 | ref id j s cut v => exact st (.ref id j s cut v) u hp
 | addr id j s v => exact st (.addr id j s v) u hp
 | ra cs xs i j => exact st (.ra cs xs i j) u hp
 | tup l => exact st (.tup l) u hp
theorem box_to {c : Cf} (hc : c.Inv) {id : Nat} (hid : c.rt id = none) {l : List (S × Nat)} {i : Nat} {c1 c2 cs' : List CV} {us : List Value} {vcs : List VC} (h2 : ResC c.w c.Z c.O l i c1 us) (hbx : boxOf l (c1 ++ c2) = some (vcs, cs')) {v : Value} {b : Nat} {E : TypeId} {fz : Nat × Nat}
  (g1 : v = .pointer (some ⟨b, 0, none⟩)) (g2 : c.w.heap[b]? = some (.cells us.toArray E fz)) (g3 : free fz us.length) (g4 : ∀ b', c.O b' = some (.det (2 * i + 1)) ↔ b' = b) :
  ∃ O', To c ⟨setRt c.rt id ⟨false, vcs⟩, c.w, upd c.γ id v, O', c.Z⟩ ∧ (∀ b n, O' b = some (.det n) ↔ c.O b = some (.det n) ∧ n ≠ 2 * i + 1 ∧ ∀ k, i ≤ k → k < i + l.length → n ≠ 2 * k) ∧
   PRep1 (setRt c.rt id ⟨false, vcs⟩) c.w (upd c.γ id v) c.Z (.addr id 0 [] 0) v := by
 obtain ⟨hl1, hl2⟩ := h2.len
 obtain ⟨_, b2, b3⟩ := boxOf_at hl1 hbx
 obtain ⟨O', ⟨i1, l1, s1⟩, oN, oS⟩ := attach_to hc (id := id) hid (r := ⟨false, vcs⟩) (g := v) (fun j b => j < l.length ∧ c.O b = some (.det (2 * (i + j)))) (fun b => c.O b = some (.det (2 * i + 1)))
  (fun j b h => ⟨_, h.2⟩) (fun a j b h1 h2 => by
   have := h1.2.symm.trans h2.2
   simp only [Option.some.injEq, Site.det.injEq] at this
   omega) (fun h => by cases h) (fun _ => ⟨b, us.toArray, E, fz, g1, g2, by simp [hl2, b2], by simpa using g3, g4, fun j hj => by
    have := hj.2.symm.trans ((g4 b).2 rfl)
    simp only [Option.some.injEq, Site.det.injEq] at this
    omega, fun hz => (by have := hc.zo b hz; rw [(g4 b).2 rfl] at this; cases this), .inr ⟨_, (g4 b).2 rfl⟩⟩) (fun j b h => by rw [b2]; exact h.1) (fun j x hx => by
   obtain ⟨s, d, cv, e1, e2, rfl⟩ := b3 j x hx
   obtain ⟨cv', u, f1, f2, f3, f4⟩ := h2.at j s d e1
   rw [e2] at f1
   obtain rfl := Option.some.inj f1
   have hj := (List.getElem?_eq_some_iff.1 e1).1
   refine ⟨u, ?_, ?_⟩
   ·simp only [PV.rootVal, g1, World.cell?, g2]
    simpa using f2
   ·have : (fun b => j < l.length ∧ c.O b = some (.det (2 * (i + j)))) = (fun b => c.O b = some (.det (2 * (i + j)))) := by funext b; simp [hj]
    simp only [this]
    exact f4)
 refine ⟨O', To.attach (To.refl hc) i1 l1 s1 rfl rfl (fun i h => setRt_some h) (fun b hb hn => ?_), fun b' n => ⟨fun hb => ?_, fun hb => ?_⟩, ⟨_, setRt_self, rfl, b, by simp [upd, g1], g1⟩⟩
 ·exact (oN b (fun j h => by rw [hn] at h; cases h.2) (fun h => by rw [hn] at h; cases h)).trans hn
 ·rcases oS b' _ hb with ⟨j, e, _⟩ | ⟨e, _⟩ | ⟨e, hne, hnb⟩
  ·cases e
  ·cases e
  ·refine ⟨e, fun hk => hnb (by rw [← hk]; exact e), fun k hk1 hk2 hk => hne (k - i) ⟨by omega, ?_⟩⟩
   rw [show i + (k - i) = k by omega, ← hk]
   exact e
 ·rw [oN b' (fun j h => ?_) (fun h => ?_)]
  ·exact hb.1
  ·have := hb.1.symm.trans h.2
   simp only [Option.some.injEq, Site.det.injEq] at this
   exact hb.2.2 (i + j) (by omega) (by omega) this
  ·have := hb.1.symm.trans h
   simp only [Option.some.injEq, Site.det.injEq] at this
   exact hb.2.1 this
theorem resAll_to {t : Nat} : ∀ {rs : List (RK × List (S × Nat))} {i : Nat} {cs : List CV} {vs : List Value} {c : Cf} {qs : List P} {rt' : Rt} {rest : List CV}, (∀ r ∈ rs, 0 < r.2.length) → c.Inv → ResR c.w c.Z c.O rs i cs vs → resAll c.rt t rs i cs = some (qs, rt', rest) →
  ∃ γ' O', To c ⟨rt', c.w, γ', O', c.Z⟩ ∧ qs.length = vs.length ∧ (∀ (n : Nat) p u, qs[n]? = some p → vs[n]? = some u → PRepA rt' c.w γ' c.Z p u) ∧
   ∀ b n, O' b = some (.det n) → c.O b = some (.det n) ∧ (n < 2 * i ∨ 2 * (i + (rs.flatMap (·.2)).length) ≤ n)
 | [], i, [], [], c, qs, rt', rest, _, hc, hr, h => by
  simp only [resAll, Option.some.injEq, Prod.mk.injEq] at h
  obtain ⟨rfl, rfl, rfl⟩ := h
  exact ⟨c.γ, c.O, To.refl hc, rfl, fun n p u hp => by simp at hp, fun b n h => ⟨h, by simp; omega⟩⟩
 | (k, l) :: rs, i, cs, v :: vs, c, qs, rt', rest, hp, hc, hr, h => by
  have hp0 : 0 < l.length := hp (k, l) (by simp)
  have hp' : ∀ r ∈ rs, 0 < r.2.length := fun r hr => hp r (by simp [hr])
  obtain ⟨c1, c2, us, rfl, h2, hodd, h3, h4⟩ := hr
  have cells : ∀ {F : List P → P}, k ≠ RK.ptr → (∀ {rt w γ Z ps}, ps.length = us.length → (∀ (n : Nat) p u, ps[n]? = some p → us[n]? = some u → PRep1 rt w γ Z p u) → PRepA rt w γ Z (F ps) v) → (match resCells c.rt t l i (c1 ++ c2) with
    | some (ps, i', rt', cs') => match resAll rt' t rs i' cs' with
     | some (qs, r) => some (F ps :: qs, r)
     | none => none
    | none => none) = some (qs, rt', rest) → ∃ γ' O', To c ⟨rt', c.w, γ', O', c.Z⟩ ∧ qs.length = (v :: vs).length ∧ (∀ (n : Nat) p u, qs[n]? = some p → (v :: vs)[n]? = some u → PRepA rt' c.w γ' c.Z p u) ∧
   ∀ b n, O' b = some (.det n) → c.O b = some (.det n) ∧ (n < 2 * i ∨ 2 * (i + (((k, l) :: rs).flatMap (·.2)).length) ≤ n) := by
   intro F hk hF hs
   split at hs
   ·rename_i ps i' rt1 cs1 hrc
    obtain ⟨γ1, O1, k1, rfl, rfl, k4, k5, k6⟩ := resCells_to hc h2 hrc
    split at hs
    ·rename_i qs2 r hra
     obtain ⟨rt2, rest2⟩ := r
     simp only [Option.some.injEq, Prod.mk.injEq] at hs
     obtain ⟨rfl, rfl, rfl⟩ := hs
     obtain ⟨γ2, O2, m1, m2, m3, m4⟩ := resAll_to (c := ⟨rt1, c.w, γ1, O1, c.Z⟩) hp' k1.inv (ResR.map (fun k hk b => (k6 b k).trans ⟨fun h => h.1, fun h => ⟨h, fun k' h1 h2 => by omega⟩⟩) (fun _ _ _ _ _ _ h => h) h4) hra
     refine ⟨γ2, O2, k1.trans m1, by simp [m2], fun n p u hp hu => ?_, fun b n hb => ?_⟩
     ·cases n with
      | zero =>
       simp only [List.getElem?_cons_zero, Option.some.injEq] at hp hu
       subst hp
       subst hu
       exact PRepA.stb (c := ⟨rt1, c.w, γ1, O1, c.Z⟩) (c' := ⟨rt2, c.w, γ2, O2, c.Z⟩) m1.stb (hF k4 k5)
      | succ n => exact m3 n p u (by simpa using hp) (by simpa using hu)
     ·obtain ⟨q1, q2⟩ := m4 b n hb
      obtain ⟨q3, q4⟩ := (k6 b n).1 q1
      refine ⟨q3, ?_⟩
      simp only [List.flatMap_cons, List.length_append]
      rcases q2 with q2 | q2
      ·by_cases hn : n < 2 * i
       ·exact .inl hn
       ·exfalso
        rcases Nat.mod_two_eq_zero_or_one n with h0 | h1
        ·exact q4 (n / 2) (by omega) (by omega) (by omega)
        ·exact hk (hodd b (n / 2) (by omega) (by omega) (by rw [show 2 * (n / 2) + 1 = n by omega]; exact q3)).1
      ·exact .inr (by omega)
    ·cases hs
   ·cases hs
  simp only [resAll] at h
  cases k with
  | one =>
   refine cells (F := fun ps => match RK.one, ps with | .agg, ps => .agg ps | _, [p] => p | _, _ => .dead) (by simp) (fun {rt w γ Z ps} hl hP => ?_) h
   simp only at h3
   subst h3
   match ps, hl with
   | [p], _ => exact PRepA.of1 (hP 0 p v rfl rfl)
  | agg =>
   refine cells (F := fun ps => match RK.agg, ps with | .agg, ps => .agg ps | _, [p] => p | _, _ => .dead) (by simp) (fun {rt w γ Z ps} hl hP => ?_) h
   simp only at h3
   exact ⟨us.toArray, h3, by simp [hl], fun n p u hp hu => hP n p u hp (by simpa using hu)⟩
  | ptr =>
   simp only at h
   obtain ⟨b, E, fz, g1, g2, g3, g4⟩ := h3
   split at h
   ·rename_i vcs cs1 hbx
    obtain ⟨e1, _, _⟩ := boxOf_at h2.len.1 hbx
    split at h
    ·rename_i rt1 hn
     obtain ⟨hid, rfl⟩ := newRoot_some hn
     obtain ⟨O1, t1, o1, p1⟩ := box_to hc hid h2 hbx g1 g2 g3 g4
     split at h
     ·rename_i qs2 r hra
      obtain ⟨rt2, rest2⟩ := r
      simp only [Option.some.injEq, Prod.mk.injEq] at h
      obtain ⟨rfl, rfl, rfl⟩ := h
      subst e1
      obtain ⟨γ2, O2, m1, m2, m3, m4⟩ := resAll_to (c := ⟨_, c.w, upd c.γ (fresh t i) v, O1, c.Z⟩) hp' t1.inv (ResR.map (fun k hk b => (o1 b k).trans ⟨fun h => h.1, fun h => ⟨h, by omega, fun k' h1 h2 => by omega⟩⟩) (fun _ _ _ _ _ _ h => h) h4) hra
      refine ⟨γ2, O2, t1.trans m1, by simp [m2], fun n p u hp hu => ?_, fun b' n hb => ?_⟩
      ·cases n with
       | zero =>
        simp only [List.getElem?_cons_zero, Option.some.injEq] at hp hu
        subst hp
        subst hu
        exact PRepA.of1 (m1.stb _ _ p1)
       | succ n => exact m3 n p u (by simpa using hp) (by simpa using hu)
      ·obtain ⟨q1, q2⟩ := m4 b' n hb
       obtain ⟨q3, q4, q5⟩ := (o1 b' n).1 q1
       refine ⟨q3, ?_⟩
       simp only [List.flatMap_cons, List.length_append]
       rcases q2 with q2 | q2
       ·by_cases hn : n < 2 * i
        ·exact .inl hn
        ·exfalso
         rcases Nat.mod_two_eq_zero_or_one n with h0 | h1
         ·exact q5 (n / 2) (by omega) (by omega) (by omega)
         ·have := (hodd b' (n / 2) (by omega) (by omega) (by rw [show 2 * (n / 2) + 1 = n by omega]; exact q3)).2
          exact q4 (by omega)
       ·exact .inr (by omega)
     ·cases h
    ·cases h
   ·cases h
end Go.PV

namespace Go.PV
variable {Pg : Program} {cx : Cx}
theorem ofTup_of : ∀ {l : List S} {m : List CV} {t : TupT l}, tupOf l m = some t → ofTup l t = m
 | [], [], _, _ => rfl
 | [], _ :: _, _, h => by simp [tupOf] at h
 | [_], [], _, h => by simp [tupOf] at h
 | [s], [c], t, h => by
  simp only [tupOf] at h
  have := CV.as_some h
  subst this
  rfl
 | [_], _ :: _ :: _, _, h => by simp [tupOf] at h
 | _ :: _ :: _, [], _, h => by simp [tupOf] at h
 | s :: s2 :: l, c :: m, t, h => by
  simp only [tupOf] at h
  cases h1 : c.as s with
  | none => rw [h1] at h; cases h
  | some y =>
   rw [h1] at h
   simp only [Option.bind_some, Option.map_eq_some_iff] at h
   obtain ⟨z, h2, rfl⟩ := h
   have := CV.as_some h1
   subst this
   simp only [ofTup, ofTup_of h2]
theorem freezeIts_to : ∀ {its : List It} {c : Cf} {rt' : Rt}, c.Inv → ND c.O → freezeIts c.rt its = some rt' → ∃ O' Z', To c ⟨rt', c.w, c.γ, O', Z'⟩ ∧ ND O'
 | [], c, rt', hc, nd, h => by
  simp only [freezeIts, Option.some.injEq] at h
  subst h
  exact ⟨c.O, c.Z, To.refl hc, nd⟩
 | it :: its, c, rt', hc, nd, h => by
  have fz : ∀ {id j n rt1}, freezeAt c.rt id j n = some rt1 → freezeIts rt1 its = some rt' → ∃ O' Z', To c ⟨rt', c.w, c.γ, O', Z'⟩ ∧ ND O' := by
   intro id j n rt1 h1 h2
   obtain ⟨O1, Z1, t1, d1⟩ := freeze_to hc h1
   obtain ⟨O2, Z2, t2, n2⟩ := freezeIts_to (c := ⟨rt1, c.w, c.γ, O1, Z1⟩) t1.inv (fun b k hb => nd b k ((d1 b k).1 hb)) h2
   exact ⟨O2, Z2, t1.trans t2, n2⟩
  cases it with
  | look id j st =>
   simp only [freezeIts] at h
   split at h
   ·rename_i rt1 h1; exact fz h1 h
   ·cases h
  | blk id j pc =>
   simp only [freezeIts] at h
   split at h
   ·split at h
    ·split at h
     ·rename_i rt1 h1; exact fz h1 h
     ·cases h
    ·exact freezeIts_to hc nd h
   ·cases h
  | _ => simp only [freezeIts] at h; exact freezeIts_to hc nd h
theorem PRep.ofA {c : Cf} {p : P} {v : Value} (h : PRepA c.rt c.w c.γ c.Z p v) : c.PR p v := by
 cases p <;> first | exact h | exact h.elim
theorem pack_rep {c : Cf} {ps : List P} {vs : List Value} (hl : ps.length = vs.length) (h : ∀ (n : Nat) p u, ps[n]? = some p → vs[n]? = some u → PRepA c.rt c.w c.γ c.Z p u) : c.PR (pack ps) (packV vs) := by
 match ps, vs, hl with
 | [], [], _ => exact ⟨#[], rfl, rfl, fun i p u hp => by simp at hp⟩
 | [p], [v], _ => exact PRep.ofA (h 0 p v rfl rfl)
 | p :: q :: ps, v :: u :: vs, hl => exact ⟨(v :: u :: vs).toArray, rfl, by simpa using hl.symm, fun i p u hp hu => h i p u hp (by simpa using hu)⟩
theorem call_ok (hcon : ∀ f, Contract Pg (cx.sig f) f (cx.call f)) (hsig : sigsOk cx) : CallOk Pg cx := by
 intro f ps vs dst c K r hc nd hlen hP h
 unfold callK at h
 split at h
 ·cases h
 ·rename_i rt0 hprep
  have hc0 : ∃ O0 Z0, To c ⟨rt0, c.w, c.γ, O0, Z0⟩ ∧ ND O0 := by
   unfold prepK at hprep
   cases hh : (cx.sig f).holds with
   | false =>
    rw [hh] at hprep
    simp only [cond_false, Option.some.injEq] at hprep
    subst hprep
    exact ⟨c.O, c.Z, To.refl hc, nd⟩
   | true =>
    rw [hh] at hprep
    simp only [cond_true] at hprep
    split at hprep
    ·exact freezeIts_to hc nd hprep
    ·cases hprep
  obtain ⟨O0, Z0, t0, nd0⟩ := hc0
  split at h
  ·cases h
  ·rename_i cs its hg
   obtain ⟨hb, h⟩ := cond_n h
   simp only [Bool.or_eq_false_iff, Bool.not_eq_false', Bool.and_eq_false_imp] at hb
   obtain ⟨hap, hfz⟩ := hb
   split at h
   ·cases h
   ·rename_i args hargs
    cases hcl : cx.call f args with
    | none => rw [hcl] at h; cases h
    | some out =>
     rw [hcl] at h
     simp only [Option.bind_some] at h
     split at h
     ·cases h
     ·rename_i ys hys
      split at h
      ·cases h
      ·rename_i rt1 hback
       split at h
       ·cases h
       ·rename_i rs rt2 rest hres
        obtain ⟨_, h⟩ := cond_s h
        obtain ⟨us, xs, g1, g2, g3, g4⟩ := gather_in (c := ⟨rt0, c.w, c.γ, O0, Z0⟩) t0.inv (vs := vs.toList) hg (by simpa using hlen) fun i p u hp hu => PR_stab t0.stb (hP i p u hp (by simpa using hu))
        obtain ⟨L, F, hL⟩ := lent_of t0.inv g1 g3 g4 hap
        have hpad : pad (ents (cx.sig f).ps) (ofTup (cx.sig f).ins args) = some xs := by rw [ofTup_of hargs]; exact g2
        obtain ⟨k1, k2⟩ := hcon f args out hcl
        refine ⟨k1, (k2 c.w (Zc ⟨rt0, c.w, c.γ, O0, Z0⟩ L F) F vs.toList us (hL.pre hpad)).mono fun e w' he => ?_⟩
        obtain ⟨v, rfl, O1, Z1, us', hpost⟩ := he
        refine ⟨v, rfl, ?_⟩
        have hcame : Came ⟨rt0, c.w, c.γ, O0, Z0⟩ (cx.sig f) its xs vs.toList us us' L F w' out v O1 Z1 ys rt1 := ⟨hL, hpost, hys, hback, hfz⟩
        have t1 := hcame.to
        obtain ⟨rv, r1, rfl⟩ := hpost.res
        have hdet : ∀ k b, ownAfter ⟨rt0, c.w, c.γ, O0, Z0⟩ its L O1 b = some (.det k) ↔ O1 b = some (.det k) := fun k b => ⟨fun hb => (after_det hb).elim id fun hb => absurd hb (nd0 b k), ownAfter_det⟩
        have r2 := ResR.map (Z' := zAfter (cx.sig f) ⟨rt0, c.w, c.γ, O0, Z0⟩ Z1) (O' := ownAfter ⟨rt0, c.w, c.γ, O0, Z0⟩ its L O1) (fun k _ b => hdet k b) (fun s d hm x u G hr => hcame.deep (fun hh => by
         unfold Sig.holds at hh
         simp only [Bool.or_eq_false_iff, List.any_eq_false] at hh
         have := hh.1 (s, d) hm
         simp only [Nat.blt_eq] at this
         omega) hr) r1
        obtain ⟨γ', O', m1, m2, m3, m4⟩ := resAll_to (c := after ⟨rt0, c.w, c.γ, O0, Z0⟩ (cx.sig f) its L w' O1 Z1 rt1) (hsig f) t1.inv r2 hres
        refine ⟨pack rs, some rt2, ⟨rt2, w', γ', O', zAfter (cx.sig f) ⟨rt0, c.w, c.γ, O0, Z0⟩ Z1⟩, h, rfl, fun rt' e => Option.some.inj e, fun e => (by cases e), (t0.trans t1).trans m1, fun b n hb => ?_, pack_rep (c := ⟨rt2, w', γ', O', zAfter (cx.sig f) ⟨rt0, c.w, c.γ, O0, Z0⟩ Z1⟩) m2 m3⟩
        obtain ⟨q1, q2⟩ := m4 b n hb
        have := hpost.det b n ((hdet n b).1 q1)
        simp only [Sig.res] at this
        omega
end Go.PV

namespace Go.PV
variable {cx : Cx}
theorem setRt_same {rt : Rt} {id : Nat} {r : Root} (h : rt id = some r) : setRt rt id r = rt := upd_self h
def DetSame (O O' : Own) : Prop := ∀ b k, O' b = some (.det k) ↔ O b = some (.det k)
theorem weak_aux {id : Nat} {virt : Bool} : ∀ (l : List VC) (ds : List Nat) (pre : List VC) (c : Cf), c.Inv → c.rt id = some ⟨virt, pre ++ l⟩ → ∃ O' Z', To c ⟨setRt c.rt id ⟨virt, pre ++ PV.weaken l ds⟩, c.w, c.γ, O', Z'⟩ ∧ DetSame c.O O'
 | [], ds, pre, c, hc, hr => by
  have e : PV.weaken [] ds = [] := by cases ds <;> rfl
  rw [e, setRt_same hr]
  exact ⟨c.O, c.Z, To.refl hc, fun _ _ => Iff.rfl⟩
 | x :: l, [], pre, c, hc, hr => by
  have e : PV.weaken (x :: l) [] = x :: l := rfl
  rw [e, setRt_same hr]
  exact ⟨c.O, c.Z, To.refl hc, fun _ _ => Iff.rfl⟩
 | x :: l, d :: ds, pre, c, hc, hr => by
  have hx : (pre ++ x :: l)[pre.length]? = some x := by rw [List.getElem?_append_right (Nat.le_refl _)]; simp
  have key : ∀ x' : VC, PV.weaken (x :: l) (d :: ds) = x' :: PV.weaken l ds → (∃ O1 Z1, To c ⟨setRt c.rt id ⟨virt, pre ++ x' :: l⟩, c.w, c.γ, O1, Z1⟩ ∧ DetSame c.O O1) → ∃ O' Z', To c ⟨setRt c.rt id ⟨virt, pre ++ PV.weaken (x :: l) (d :: ds)⟩, c.w, c.γ, O', Z'⟩ ∧ DetSame c.O O' := by
   rintro x' e ⟨O1, Z1, t1, n1⟩
   obtain ⟨O2, Z2, t2, n2⟩ := weak_aux (id := id) (virt := virt) l ds (pre ++ [x']) ⟨setRt c.rt id ⟨virt, pre ++ x' :: l⟩, c.w, c.γ, O1, Z1⟩ t1.inv (by show setRt c.rt id _ id = _; rw [setRt_self]; simp)
   have e2 : pre ++ PV.weaken (x :: l) (d :: ds) = pre ++ [x'] ++ PV.weaken l ds := by rw [e]; simp
   rw [e2]
   simp only [setRt_set] at t2
   exact ⟨O2, Z2, t1.trans t2, fun b k => (n2 b k).trans (n1 b k)⟩
  cases hxc : x.c with
  | mk d0 k =>
   refine key ⟨x.hv, x.iv, .mk (min d0 d) k⟩ (by simp only [PV.weaken, hxc]) ?_
   have hca : cellAt c.rt id pre.length = some x := cellAt_eq hr hx
   have hfr : freezeAt c.rt id pre.length d = some (setRt c.rt id ⟨virt, pre ++ ⟨x.hv, x.iv, .mk (min d0 d) k⟩ :: l⟩) := by
    unfold freezeAt
    rw [hca]
    simp only [hxc]
    unfold setCellAt
    rw [hr]
    simp
   obtain ⟨O1, Z1, t1, d1⟩ := freeze_to hc hfr
   exact ⟨O1, Z1, t1, d1⟩
  | lk k => exact key x (by simp only [PV.weaken, hxc]; obtain ⟨a, b, q⟩ := x; simp only at hxc; subst hxc; rfl) ⟨c.O, c.Z, by rw [setRt_same hr]; exact To.refl hc, fun _ _ => Iff.rfl⟩
  | any => exact key x (by simp only [PV.weaken, hxc]; obtain ⟨a, b, q⟩ := x; simp only at hxc; subst hxc; rfl) ⟨c.O, c.Z, by rw [setRt_same hr]; exact To.refl hc, fun _ _ => Iff.rfl⟩
  | al a1 a2 a3 a4 a5 => exact key x (by simp only [PV.weaken, hxc]; obtain ⟨a, b, q⟩ := x; simp only at hxc; subst hxc; rfl) ⟨c.O, c.Z, by rw [setRt_same hr]; exact To.refl hc, fun _ _ => Iff.rfl⟩
def weakAll (rt : Rt) : List (Nat × List Nat) → Rt
 | [] => rt
 | (id, ds) :: l => match rt id with
  | some r => weakAll (setRt rt id ⟨r.virt, PV.weaken r.cells ds⟩) l
  | none => weakAll rt l
theorem weakAll_to : ∀ (l : List (Nat × List Nat)) (c : Cf), c.Inv → ∃ O' Z', To c ⟨weakAll c.rt l, c.w, c.γ, O', Z'⟩ ∧ DetSame c.O O'
 | [], c, hc => ⟨c.O, c.Z, To.refl hc, fun _ _ => Iff.rfl⟩
 | (id, ds) :: l, c, hc => by
  unfold weakAll
  cases hr : c.rt id with
  | none => exact weakAll_to l c hc
  | some r =>
   obtain ⟨O1, Z1, t1, n1⟩ := weak_aux r.cells ds [] c hc (virt := r.virt) hr
   obtain ⟨O2, Z2, t2, n2⟩ := weakAll_to l ⟨setRt c.rt id ⟨r.virt, PV.weaken r.cells ds⟩, c.w, c.γ, O1, Z1⟩ t1.inv
   exact ⟨O2, Z2, t1.trans t2, fun b k => (n2 b k).trans (n1 b k)⟩
theorem weakAll_other : ∀ (l : List (Nat × List Nat)) (rt : Rt) (id : Nat), id ∉ l.map (·.1) → weakAll rt l id = rt id
 | [], rt, id, _ => rfl
 | (a, ds) :: l, rt, id, h => by
  simp only [List.map_cons, List.mem_cons, not_or] at h
  unfold weakAll
  cases hr : rt a with
  | none => exact weakAll_other l rt id h.2
  | some r =>
   simp only
   rw [weakAll_other l _ id h.2, setRt_ne h.1]
theorem weakAll_at : ∀ (l : List (Nat × List Nat)) (rt : Rt) (id : Nat) (ds : List Nat) (r : Root), (l.map (·.1)).Nodup → (id, ds) ∈ l → rt id = some r → weakAll rt l id = some ⟨r.virt, PV.weaken r.cells ds⟩
 | (a, ds0) :: l, rt, id, ds, r, hn, hm, hr => by
  simp only [List.map_cons, List.nodup_cons] at hn
  simp only [List.mem_cons, Prod.mk.injEq] at hm
  unfold weakAll
  rcases hm with ⟨rfl, rfl⟩ | hm
  ·rw [hr]
   simp only
   rw [weakAll_other l _ id hn.1, setRt_self]
  ·have hne : id ≠ a := fun e => by subst e; exact hn.1 (List.mem_map.2 ⟨_, hm, rfl⟩)
   cases hra : rt a with
   | none => exact weakAll_at l rt id ds r hn.2 hm hr
   | some ra => exact weakAll_at l _ id ds r hn.2 hm (by rw [setRt_ne hne]; exact hr)
theorem weak_ver : ∀ (l : List VC) (ds : List Nat) (j : Nat), (PV.weaken l ds)[j]?.map (fun x => (x.hv, x.iv)) = l[j]?.map (fun x => (x.hv, x.iv))
 | [], ds, j => by cases ds <;> rfl
 | x :: l, [], j => rfl
 | x :: l, d :: ds, 0 => by simp [PV.weaken]
 | x :: l, d :: ds, j + 1 => by simp only [PV.weaken, List.getElem?_cons_succ]; exact weak_ver l ds j
def vers (rt : Rt) (id j : Nat) : Option (Nat × Nat) := (cellAt rt id j).map fun x => (x.hv, x.iv)
theorem weakAll_ver : ∀ (l : List (Nat × List Nat)) (rt : Rt) (id j : Nat), vers (weakAll rt l) id j = vers rt id j
 | [], rt, id, j => rfl
 | (a, ds) :: l, rt, id, j => by
  unfold weakAll
  cases hr : rt a with
  | none => exact weakAll_ver l rt id j
  | some r =>
   simp only
   rw [weakAll_ver l]
   unfold vers cellAt
   by_cases hid : id = a
   ·subst hid
    rw [setRt_self, hr]
    exact weak_ver r.cells ds j
   ·rw [setRt_ne hid]
theorem live_ver {rt rt' : Rt} (h : ∀ id j, vers rt' id j = vers rt id j) (keep : List Nat) (id j : Nat) (st : Way) (v : Nat) : liveRef rt' keep id j st v = liveRef rt keep id j st v := by
 have hv := h id j
 unfold vers at hv
 unfold liveRef
 cases h1 : cellAt rt id j with
 | none =>
  rw [h1] at hv
  cases h2 : cellAt rt' id j with
  | none => rfl
  | some x => rw [h2] at hv; cases hv
 | some x =>
  rw [h1] at hv
  cases h2 : cellAt rt' id j with
  | none => rw [h2] at hv; cases hv
  | some x' =>
   rw [h2] at hv
   simp only [Option.map_some, Option.some.injEq, Prod.mk.injEq] at hv
   simp only [VC.ok]
   rw [hv.1, hv.2]
structure En where
 id : Nat
 src : Option Nat
 r : Root
def viewRoot (rt : Rt) (keep : List Nat) (ren : Ren) (r : Root) : Root := ⟨r.virt, r.cells.map fun x => ⟨0, 0, normCell rt keep ren x.c⟩⟩
structure View (c : Cf) (E : List En) (G : Nat → Value) (keep : List Nat) (ren : Ren) (rt' : Rt) : Prop where
 e1 : ∀ e ∈ E, ∀ e' ∈ E, e.id = e'.id → e = e'
 e2 : ∀ e ∈ E, ∀ e' ∈ E, ∀ a, e.src = some a → e'.src = some a → e = e'
 e3 : ∀ a, memN a keep = true ↔ ∃ e ∈ E, e.src = some a
 e4 : ∀ e ∈ E, ∀ a, e.src = some a → renId ren a = e.id
 e5 : ∀ e ∈ E, ∀ a, e.src = some a → ∃ r0, c.rt a = some r0 ∧ e.r = viewRoot c.rt keep ren r0
 e6 : ∀ e ∈ E, e.src = none → ∃ d cs xs, e.r = rowRoot d cs xs ∧ Rep c.w c.Z (.row cs) d xs (G e.id) nil'
 e8 : ∀ e ∈ E, rt' e.id = some e.r
 e9 : ∀ id, (∀ e ∈ E, e.id ≠ id) → rt' id = none
def viewG (c : Cf) (E : List En) (G : Nat → Value) (id : Nat) : Value := match E.find? (fun e => e.id == id) with
 | some e => match e.src with
  | some a => c.γ a
  | none => G id
 | none => undef
def viewO (c : Cf) (keep : List Nat) (ren : Ren) : Own := fun b => match c.O b with
 | some (.cell a j) => bif memN a keep then some (.cell (renId ren a) j) else none
 | some (.box a) => bif memN a keep then some (.box (renId ren a)) else none
 | _ => none
section
variable {c : Cf} {E : List En} {G : Nat → Value} {keep : List Nat} {ren : Ren} {rt' : Rt}
theorem View.g (h : View c E G keep ren rt') {e : En} (he : e ∈ E) : viewG c E G e.id = (match e.src with | some a => c.γ a | none => G e.id) := by
 unfold viewG
 cases hf : E.find? (fun e' => e'.id == e.id) with
 | none =>
  have := List.find?_eq_none.1 hf e he
  simp at this
 | some e' =>
  have h1 := List.mem_of_find?_eq_some hf
  have h2 := List.find?_some hf
  simp only [beq_iff_eq] at h2
  obtain rfl := h.e1 e' h1 e he h2
  rfl
theorem viewO_some {b : Nat} {s : Site} (hs : viewO c keep ren b = some s) : (∃ a j, c.O b = some (.cell a j) ∧ memN a keep = true ∧ s = .cell (renId ren a) j) ∨ (∃ a, c.O b = some (.box a) ∧ memN a keep = true ∧ s = .box (renId ren a)) := by
 unfold viewO at hs
 split at hs
 ·rename_i a j ho
  obtain ⟨hm, hs⟩ := cond_s hs
  exact .inl ⟨a, j, ho, hm, (Option.some.inj hs).symm⟩
 ·rename_i a ho
  obtain ⟨hm, hs⟩ := cond_s hs
  exact .inr ⟨a, ho, hm, (Option.some.inj hs).symm⟩
 ·cases hs
theorem View.own (h : View c E G keep ren rt') {e : En} (he : e ∈ E) : (∀ a, e.src = some a → (∀ b j, viewO c keep ren b = some (.cell e.id j) ↔ c.O b = some (.cell a j)) ∧ ∀ b, viewO c keep ren b = some (.box e.id) ↔ c.O b = some (.box a)) ∧
  (e.src = none → (∀ b j, viewO c keep ren b ≠ some (.cell e.id j)) ∧ ∀ b, viewO c keep ren b ≠ some (.box e.id)) := by
 have src : ∀ a, memN a keep = true → renId ren a = e.id → e.src = some a := fun a hm hr => by
  obtain ⟨e', h1, h2⟩ := (h.e3 a).1 hm
  have := h.e4 e' h1 a h2
  rw [hr] at this
  obtain rfl := h.e1 e he e' h1 this
  exact h2
 refine ⟨fun a ha => ⟨fun b j => ⟨fun hb => ?_, fun hb => ?_⟩, fun b => ⟨fun hb => ?_, fun hb => ?_⟩⟩, fun hn => ⟨fun b j hb => ?_, fun b hb => ?_⟩⟩
 ·rcases viewO_some hb with ⟨a', j', h1, h2, h3⟩ | ⟨a', h1, h2, h3⟩
  ·simp only [Site.cell.injEq] at h3
   have := src a' h2 h3.1.symm
   rw [ha] at this
   obtain rfl := Option.some.inj this
   rw [h1, h3.2]
  ·cases h3
 ·unfold viewO
  rw [hb]
  simp only
  rw [(h.e3 a).2 ⟨e, he, ha⟩, h.e4 e he a ha]
  rfl
 ·rcases viewO_some hb with ⟨a', j', h1, h2, h3⟩ | ⟨a', h1, h2, h3⟩
  ·cases h3
  ·simp only [Site.box.injEq] at h3
   have := src a' h2 h3.symm
   rw [ha] at this
   obtain rfl := Option.some.inj this
   exact h1
 ·unfold viewO
  rw [hb]
  simp only
  rw [(h.e3 a).2 ⟨e, he, ha⟩, h.e4 e he a ha]
  rfl
 ·rcases viewO_some hb with ⟨a', j', h1, h2, h3⟩ | ⟨a', h1, h2, h3⟩
  ·simp only [Site.cell.injEq] at h3
   have := src a' h2 h3.1.symm
   rw [hn] at this; cases this
  ·cases h3
 ·rcases viewO_some hb with ⟨a', j', h1, h2, h3⟩ | ⟨a', h1, h2, h3⟩
  ·cases h3
  ·simp only [Site.box.injEq] at h3
   have := src a' h2 h3.symm
   rw [hn] at this; cases this
theorem View.rootVal (h : View c E G keep ren rt') {e : En} (he : e ∈ E) {a : Nat} (ha : e.src = some a) {r0 : Root} (hv : e.r.virt = r0.virt) (j : Nat) : PV.rootVal c.w e.r (viewG c E G e.id) j = PV.rootVal c.w r0 (c.γ a) j := by
 have := h.g he
 rw [ha] at this
 simp only at this
 rw [this]
 unfold PV.rootVal
 rw [hv]
theorem View.p1 (h : View c E G keep ren rt') {p : P} {u : Value} (hp : c.P1 p u) : PRep1 rt' c.w (viewG c E G) c.Z (normP1 c.rt keep ren p) u := by
 cases p with
 | dead => trivial
 | und => exact hp
 | e => exact hp
 | cv k => exact hp
 | ra cs xs i j => exact hp
 | agg l => exact hp.elim
 | tup l => exact hp.elim
 | ref id j st cut v =>
  simp only [normP1]
  cases hl : liveRef c.rt keep id j st v with
  | false => trivial
  | true =>
   simp only [cond_true]
   unfold liveRef at hl
   simp only [Bool.and_eq_true] at hl
   obtain ⟨hm, hok⟩ := hl
   obtain ⟨r, x, rv, h1, h2, h3, h4, h5⟩ := hp
   rw [cellAt_eq h1 h2] at hok
   simp only at hok
   have hver : v = x.ver st := by
    unfold VC.ok at hok
    unfold VC.ver
    cases st <;> exact Nat.eq_of_beq_eq_true hok
   obtain ⟨e, he, ha⟩ := (h.e3 id).1 hm
   obtain ⟨r0, g1, g2⟩ := h.e5 e he id ha
   rw [h1] at g1
   obtain rfl := Option.some.inj g1
   rw [h.e4 e he id ha]
   refine ⟨e.r, ⟨0, 0, normCell c.rt keep ren x.c⟩, rv, h.e8 e he, ?_, ?_, ⟨Nat.zero_le _, h4.2⟩, fun _ => ?_⟩
   ·rw [g2]; simp only [viewRoot, List.getElem?_map, h2, Option.map_some]
   ·exact (h.rootVal he ha (by rw [g2]; rfl) j).trans h3
   ·have hr := h5 hver
    unfold RefOk at hr ⊢
    cases hxc : x.c with
    | mk d k => rw [hxc] at hr; exact hr
    | lk k => rw [hxc] at hr; exact hr.elim
    | any => rw [hxc] at hr; exact hr
    | al a1 a2 a3 a4 a5 =>
     rw [hxc] at hr
     simp only [normCell]
     cases liveRef c.rt keep a1 a2 a3 a5 <;> exact hr
 | addr id j st v =>
  cases st with
  | nil =>
   simp only [normP1]
   cases hm : memN id keep with
   | false => trivial
   | true =>
    simp only [cond_true]
    obtain ⟨r, h1, h2, b, h3, h4⟩ := hp
    obtain ⟨e, he, ha⟩ := (h.e3 id).1 hm
    obtain ⟨r0, g1, g2⟩ := h.e5 e he id ha
    rw [h1] at g1
    obtain rfl := Option.some.inj g1
    rw [h.e4 e he id ha]
    refine ⟨e.r, h.e8 e he, by rw [g2]; exact h2, b, ?_, h4⟩
    have := h.g he
    rw [ha] at this
    exact this.trans h3
  | cons q st =>
   simp only [normP1]
   cases hl : liveRef c.rt keep id j (q :: st) v with
   | false => trivial
   | true =>
    simp only [cond_true]
    unfold liveRef at hl
    simp only [Bool.and_eq_true] at hl
    obtain ⟨hm, hok⟩ := hl
    obtain ⟨r, h1, x, rv, h2, h3, h4, h5⟩ := hp
    rw [cellAt_eq h1 h2] at hok
    have hver : v = x.iv := Nat.eq_of_beq_eq_true hok
    obtain ⟨e, he, ha⟩ := (h.e3 id).1 hm
    obtain ⟨r0, g1, g2⟩ := h.e5 e he id ha
    rw [h1] at g1
    obtain rfl := Option.some.inj g1
    rw [h.e4 e he id ha]
    refine ⟨e.r, h.e8 e he, ⟨0, 0, normCell c.rt keep ren x.c⟩, rv, ?_, ?_, ⟨Nat.zero_le _, h4.2⟩, fun _ => ?_⟩
    ·rw [g2]; simp only [viewRoot, List.getElem?_map, h2, Option.map_some]
    ·exact (h.rootVal he ha (by rw [g2]; rfl) j).trans h3
    ·have hr := h5 hver
     unfold AddrOk at hr ⊢
     cases hxc : x.c with
     | mk d k => rw [hxc] at hr; exact hr
     | lk k => rw [hxc] at hr; exact hr.elim
     | any => rw [hxc] at hr; exact hr.elim
     | al => rw [hxc] at hr; exact hr.elim
theorem View.inv (h : View c E G keep ren rt') (hc : c.Inv) : Inv rt' c.w (viewG c E G) (viewO c keep ren) c.Z := by
 have ids : ∀ id r, rt' id = some r → ∃ e ∈ E, e.id = id ∧ e.r = r := fun id r hr => by
  by_cases hex : ∃ e ∈ E, e.id = id
  ·obtain ⟨e, he, rfl⟩ := hex
   rw [h.e8 e he] at hr
   exact ⟨e, he, rfl, Option.some.inj hr⟩
  ·rw [h.e9 id fun e he hid => hex ⟨e, he, hid⟩] at hr; cases hr
 have site : ∀ b s, viewO c keep ren b = some s → ∃ e ∈ E, (∃ j, s = .cell e.id j) ∨ s = .box e.id := fun b s hs => by
  rcases viewO_some hs with ⟨a, j, _, h2, h3⟩ | ⟨a, _, h2, h3⟩
  ·obtain ⟨e, he, ha⟩ := (h.e3 a).1 h2
   exact ⟨e, he, .inl ⟨j, by rw [h3, h.e4 e he a ha]⟩⟩
  ·obtain ⟨e, he, ha⟩ := (h.e3 a).1 h2
   exact ⟨e, he, .inr (by rw [h3, h.e4 e he a ha])⟩
 refine ⟨fun id r hr => ?_, fun b hb => ?_, hc.zs, fun b s hs => ?_, fun b id j hb => ?_, fun b id hb => ?_⟩
 ·obtain ⟨e, he, rfl, rfl⟩ := ids id r hr
  obtain ⟨o1, o2⟩ := h.own he
  cases hsrc : e.src with
  | none =>
   obtain ⟨d, cs, xs, e1, e2⟩ := h.e6 e he hsrc
   obtain ⟨n1, n2⟩ := o2 hsrc
   rw [e1]
   refine ⟨fun _ => ⟨rfl, n2⟩, fun hv => (by cases hv), fun j x hx => ?_, fun j _ b => n1 b j⟩
   cases j with
   | zero =>
    simp only [rowRoot, List.getElem?_cons_zero, Option.some.injEq] at hx
    subst hx
    have hg := h.g he
    rw [hsrc] at hg
    simp only at hg
    refine ⟨G e.id, by simp only [rowRoot, PV.rootVal, hg], ?_⟩
    have : (fun b => viewO c keep ren b = some (.cell e.id 0)) = nil' := by funext b; simp only [nil', eq_iff_iff, iff_false]; exact n1 b 0
    show Rep c.w c.Z (.row cs) d xs (G e.id) (fun b => viewO c keep ren b = some (.cell e.id 0))
    rw [this]
    exact e2
   | succ j => simp [rowRoot] at hx
  | some a =>
   obtain ⟨r0, g1, g2⟩ := h.e5 e he a hsrc
   obtain ⟨n1, n2⟩ := o1 a hsrc
   have hk := hc.root a r0 g1
   have hg := h.g he
   rw [hsrc] at hg
   simp only at hg
   have hvirt : e.r.virt = r0.virt := by rw [g2]; rfl
   have hlen : e.r.cells.length = r0.cells.length := by rw [g2]; simp [viewRoot]
   refine ⟨fun hv => ⟨by rw [hlen]; exact (hk.virt (hvirt.symm.trans hv)).1, fun b hb => (hk.virt (hvirt.symm.trans hv)).2 b ((n2 b).1 hb)⟩, fun hv => ?_, fun j x hx => ?_, fun j hj b hb => hk.beyond j (by rw [← hlen]; exact hj) b ((n1 b j).1 hb)⟩
   ·obtain ⟨b, ca, Et, fz, f1, f2, f3, f4, f5⟩ := hk.box (hvirt.symm.trans hv)
    exact ⟨b, ca, Et, fz, hg.trans f1, f2, f3.trans hlen.symm, f4, fun b' => (n2 b').trans (f5 b')⟩
   ·rw [g2] at hx
    simp only [viewRoot, List.getElem?_map, Option.map_eq_some_iff] at hx
    obtain ⟨x0, hx0, rfl⟩ := hx
    obtain ⟨rv, m1, m2⟩ := hk.cell j x0 hx0
    refine ⟨rv, (h.rootVal he hsrc hvirt j).trans m1, ?_⟩
    have hO : (fun b => viewO c keep ren b = some (.cell e.id j)) = (fun b => c.O b = some (.cell a j)) := by funext b; exact propext (n1 b j)
    have hno : (∀ b, c.O b ≠ some (.cell a j)) → ∀ b, viewO c keep ren b ≠ some (.cell e.id j) := fun hn b hb => hn b ((n1 b j).1 hb)
    cases hxc : x0.c with
    | mk d k =>
     rw [hxc] at m2
     show Rep c.w c.Z k.s d k.x rv (fun b => viewO c keep ren b = some (.cell e.id j))
     rw [hO]
     exact m2
    | lk k => rw [hxc] at m2; exact ⟨m2.1, hno m2.2⟩
    | any => rw [hxc] at m2; exact hno m2
    | al a1 a2 a3 a4 a5 =>
     rw [hxc] at m2
     have hp := h.p1 m2.2
     simp only [normCell]
     simp only [normP1] at hp
     cases hl : liveRef c.rt keep a1 a2 a3 a5 with
     | false => exact hno m2.1
     | true => rw [hl] at hp; exact ⟨hno m2.1, hp⟩
 ·unfold viewO
  rw [hc.zo b hb]
 ·rcases viewO_some hs with ⟨a, j, h1, _, _⟩ | ⟨a, h1, _, _⟩
  ·exact hc.os b _ h1
  ·exact hc.os b _ h1
 ·obtain ⟨e, he, h1⟩ := site b _ hb
  rcases h1 with ⟨j', h1⟩ | h1
  ·simp only [Site.cell.injEq] at h1
   rw [h1.1, h.e8 e he]; simp
  ·cases h1
 ·obtain ⟨e, he, h1⟩ := site b _ hb
  rcases h1 with ⟨j', h1⟩ | h1
  ·cases h1
  ·simp only [Site.box.injEq] at h1
   rw [h1, h.e8 e he]; simp
theorem View.lk (h : View c E G keep ren rt') {e : En} (he : e ∈ E) {a : Nat} (ha : e.src = some a) {j : Nat} {u : Value} (hl : c.lkAt a j u) : Cf.lkAt ⟨rt', c.w, viewG c E G, viewO c keep ren, c.Z⟩ e.id j u := by
 obtain ⟨r, x, k, h1, h2, h3, h4⟩ := hl
 obtain ⟨r0, g1, g2⟩ := h.e5 e he a ha
 rw [h1] at g1
 obtain rfl := Option.some.inj g1
 refine ⟨e.r, ⟨0, 0, normCell c.rt keep ren x.c⟩, k, h.e8 e he, ?_, by simp only [h3, normCell], ?_⟩
 ·rw [g2]; simp only [viewRoot, List.getElem?_map, h2, Option.map_some]
 ·exact (h.rootVal he ha (by rw [g2]; rfl) j).trans h4
theorem View.nd : ND (viewO c keep ren) := fun b k hb => by
 rcases viewO_some hb with ⟨_, _, _, _, h⟩ | ⟨_, _, _, h⟩ <;> cases h
theorem View.none {b : Nat} (hb : c.O b = none) : viewO c keep ren b = none := by unfold viewO; rw [hb]
end
end Go.PV

namespace Go.PV
variable {cx : Cx}
theorem allApart_nodup : ∀ {l : List Nat}, allApart l = true → l.Nodup
 | [], _ => List.nodup_nil
 | a :: l, h => by
  simp only [allApart, Bool.and_eq_true, Bool.not_eq_true'] at h
  refine List.nodup_cons.2 ⟨fun hm => ?_, allApart_nodup h.2⟩
  rw [memN_mem.2 hm] at h
  exact absurd h.1 (by simp)
theorem map_inj {α β : Type} {f : α → β} : ∀ {l : List α}, (l.map f).Nodup → ∀ x ∈ l, ∀ y ∈ l, f x = f y → x = y
 | a :: l, h, x, hx, y, hy, e => by
  simp only [List.map_cons, List.nodup_cons] at h
  simp only [List.mem_cons] at hx hy
  rcases hx with rfl | hx <;> rcases hy with rfl | hy
  ·rfl
  ·exact absurd (List.mem_map.2 ⟨y, hy, e.symm⟩) h.1
  ·exact absurd (List.mem_map.2 ⟨x, hx, e⟩) h.1
  ·exact map_inj h.2 x hx y hy e
theorem filterMap_inj {α β : Type} {f : α → Option β} : ∀ {l : List α}, (l.filterMap f).Nodup → ∀ x ∈ l, ∀ y ∈ l, ∀ b, f x = some b → f y = some b → x = y
 | a :: l, h, x, hx, y, hy, b, e1, e2 => by
  have ht : (l.filterMap f).Nodup := by
   rw [List.filterMap_cons] at h
   split at h
   ·exact h
   ·exact (List.nodup_cons.1 h).2
  simp only [List.mem_cons] at hx hy
  rcases hx with rfl | hx <;> rcases hy with rfl | hy
  ·rfl
  ·rw [List.filterMap_cons, e1] at h
   exact absurd (List.mem_filterMap.2 ⟨y, hy, e2⟩) (List.nodup_cons.1 h).1
  ·rw [List.filterMap_cons, e2] at h
   exact absurd (List.mem_filterMap.2 ⟨x, hx, e1⟩) (List.nodup_cons.1 h).1
  ·exact filterMap_inj ht x hx y hy b e1 e2
theorem renId_not : ∀ {ren : Ren} {a : Nat}, a ∉ ren.map (·.1) → renId ren a = a
 | [], _, _ => rfl
 | (x, y) :: ren, a, h => by
  simp only [List.map_cons, List.mem_cons, not_or] at h
  unfold renId
  rw [show Nat.beq a x = false by rw [← Bool.not_eq_true, Nat.beq_eq]; exact h.1]
  exact renId_not h.2
theorem renId_at : ∀ {ren : Ren} {a b : Nat}, (ren.map (·.1)).Nodup → (a, b) ∈ ren → renId ren a = b
 | (x, y) :: ren, a, b, hn, h => by
  simp only [List.map_cons, List.nodup_cons] at hn
  simp only [List.mem_cons, Prod.mk.injEq] at h
  unfold renId
  rcases h with ⟨rfl, rfl⟩ | h
  ·rw [show Nat.beq a a = true by rw [Nat.beq_eq]]
   rfl
  ·have hne : a ≠ x := fun e => by subst e; exact hn.1 (List.mem_map.2 ⟨_, h, rfl⟩)
   rw [show Nat.beq a x = false by rw [← Bool.not_eq_true, Nat.beq_eq]; exact hne]
   exact renId_at hn.2 h
theorem getAll_spec {rt : Rt} {keep : List Nat} {ren : Ren} : ∀ {l : List (Nat × List Nat)} {rs : List Root}, getAll rt keep ren l = some rs → ∃ es : List En, es.map (·.r) = rs ∧ es.map (·.id) = l.map (·.1) ∧ ∀ e ∈ es, e.src = some e.id ∧ ∃ ds r, (e.id, ds) ∈ l ∧ rt e.id = some r ∧ e.r = normRoot rt keep ren ds r
 | [], rs, h => by
  simp only [getAll, Option.some.injEq] at h
  subst h
  exact ⟨[], rfl, rfl, fun e he => by simp at he⟩
 | (id, ds) :: l, rs, h => by
  simp only [getAll] at h
  split at h
  ·rename_i r hr
   split at h
   ·rename_i rs2 h2
    obtain rfl := Option.some.inj h
    obtain ⟨es, h3, h4, h5⟩ := getAll_spec h2
    refine ⟨⟨id, some id, normRoot rt keep ren ds r⟩ :: es, by simp [h3], by simp [h4], fun e he => ?_⟩
    simp only [List.mem_cons] at he
    rcases he with rfl | he
    ·exact ⟨rfl, ds, r, by simp, hr, rfl⟩
    ·obtain ⟨k1, ds', r', k2, k3⟩ := h5 e he
     exact ⟨k1, ds', r', by simp [k2], k3⟩
   ·cases h
  ·cases h
def ownIds (l : List (Nat × HS)) : List (Nat × List Nat) := l.filterMap fun | (t, .own d _) => some (canon t, [d]) | _ => none
theorem owns_spec {s : St} : ∀ {l : List (Nat × HS)} {ren : Ren} {rs : List Root}, owns s l = some (ren, rs) → ∃ es : List En, es.map (·.r) = rs ∧ es.map (·.id) = (ownIds l).map (·.1) ∧ ren = es.filterMap (fun e => e.src.map fun a => (a, e.id)) ∧
  (∀ e ∈ es, ∃ t d cs, (t, HS.own d cs) ∈ l ∧ e.id = canon t ∧ ownSrc s.rt d cs (s.tm t) = some (e.src, e.r)) ∧ ∀ t d cs, (t, HS.own d cs) ∈ l → ∃ e ∈ es, e.id = canon t ∧ ownSrc s.rt d cs (s.tm t) = some (e.src, e.r)
 | [], ren, rs, h => by
  simp only [owns, Option.some.injEq, Prod.mk.injEq] at h
  obtain ⟨rfl, rfl⟩ := h
  exact ⟨[], rfl, rfl, rfl, fun e he => by simp at he, fun t d cs ht => by simp at ht⟩
 | (t, .keep) :: l, ren, rs, h => by
  simp only [owns] at h
  obtain ⟨es, h1, h2, h3, h4, h5⟩ := owns_spec h
  refine ⟨es, h1, h2, h3, fun e he => ?_, fun t' d cs ht => ?_⟩
  ·obtain ⟨t, d, cs, k1, k2⟩ := h4 e he
   exact ⟨t, d, cs, by simp [k1], k2⟩
  ·simp only [List.mem_cons, Prod.mk.injEq, reduceCtorEq, and_false, false_or] at ht
   exact h5 t' d cs ht
 | (t, .own d cs) :: l, ren, rs, h => by
  simp only [owns] at h
  split at h
  ·rename_i o r ho
   split at h
   ·rename_i ren2 rs2 h2
    obtain ⟨es, h1, h3, h4, h5, h6⟩ := owns_spec h2
    have key : ren = (⟨canon t, o, r⟩ :: es : List En).filterMap (fun e => e.src.map fun a => (a, e.id)) ∧ rs = r :: rs2 := by
     cases o with
     | none =>
      simp only [Option.some.injEq, Prod.mk.injEq] at h
      obtain ⟨rfl, rfl⟩ := h
      exact ⟨by simpa using h4, rfl⟩
     | some id =>
      simp only at h
      obtain ⟨_, h⟩ := cond_n h
      simp only [Option.some.injEq, Prod.mk.injEq] at h
      obtain ⟨rfl, rfl⟩ := h
      exact ⟨by simpa using h4, rfl⟩
    refine ⟨⟨canon t, o, r⟩ :: es, by rw [key.2]; simp [h1], ?_, key.1, fun e he => ?_, fun t' d' cs' ht => ?_⟩
    ·simp only [List.map_cons, h3]
     rfl
    ·simp only [List.mem_cons] at he
     rcases he with rfl | he
     ·exact ⟨t, d, cs, by simp, rfl, ho⟩
     ·obtain ⟨t', d', cs', k1, k2⟩ := h5 e he
      exact ⟨t', d', cs', by simp [k1], k2⟩
    ·simp only [List.mem_cons, Prod.mk.injEq, HS.own.injEq] at ht
     rcases ht with ⟨rfl, rfl, rfl⟩ | ht
     ·exact ⟨⟨canon t', o, r⟩, by simp, rfl, ho⟩
     ·obtain ⟨e, k1, k2⟩ := h6 t' d' cs' ht
      exact ⟨e, by simp [k1], k2⟩
   ·cases h
  ·cases h
theorem ofList_ids {E : List En} : ∀ {E : List En} {ids : List (Nat × List Nat)}, ids.map (·.1) = E.map (·.id) → (E.map (·.id)).Nodup → (∀ e ∈ E, ofList (none : Option Root) ids ((E.map (·.r)).map some) e.id = some e.r) ∧ ∀ id, (∀ e ∈ E, e.id ≠ id) → ofList (none : Option Root) ids ((E.map (·.r)).map some) id = none
 | [], [], _, _ => ⟨fun e he => by simp at he, fun id _ => rfl⟩
 | [], _ :: _, h, _ => by simp at h
 | _ :: _, [], h, _ => by simp at h
 | e0 :: E, (i, ds) :: ids, h, hn => by
  simp only [List.map_cons, List.cons.injEq, List.nodup_cons] at h hn
  obtain ⟨rfl, h⟩ := h
  obtain ⟨h1, h2⟩ := ofList_ids h hn.2 (E := E)
  simp only [List.map_cons, ofList]
  refine ⟨fun e he => ?_, fun id hid => ?_⟩
  ·simp only [List.mem_cons] at he
   rcases he with rfl | he
   ·rw [show Nat.beq e.id e.id = true by rw [Nat.beq_eq]]; rfl
   ·have hne : e.id ≠ e0.id := fun e2 => hn.1 (by rw [← e2]; exact List.mem_map.2 ⟨e, he, rfl⟩)
    rw [show Nat.beq e.id e0.id = false by rw [← Bool.not_eq_true, Nat.beq_eq]; exact hne]
    exact h1 e he
  ·have hne : id ≠ e0.id := fun e2 => hid e0 (by simp) e2.symm
   rw [show Nat.beq id e0.id = false by rw [← Bool.not_eq_true, Nat.beq_eq]; exact hne]
   exact h2 id fun e he => hid e (by simp [he])
theorem ofList_slots {α : Type} {f : Nat × α → P} : ∀ {l : List (Nat × α)} {t : Nat}, ofList P.dead l (l.map f) t = .dead ∨ ∃ q ∈ l, q.1 = t ∧ ofList P.dead l (l.map f) t = f q
 | [], t => .inl rfl
 | (t0, x) :: l, t => by
  simp only [List.map_cons, ofList]
  cases hb : Nat.beq t t0 with
  | true =>
   have := Nat.eq_of_beq_eq_true hb
   exact .inr ⟨(t0, x), by simp, this.symm, rfl⟩
  | false =>
   rcases ofList_slots (l := l) (t := t) (f := f) with h | ⟨q, h1, h2, h3⟩
   ·exact .inl h
   ·exact .inr ⟨q, by simp [h1], h2, h3⟩
theorem normCell_ver {rt rt' : Rt} (h : ∀ id j, vers rt' id j = vers rt id j) (keep : List Nat) (ren : Ren) (c : Cell) : normCell rt' keep ren c = normCell rt keep ren c := by
 cases c <;> simp only [normCell, live_ver h]
theorem normP1_ver {rt rt' : Rt} (h : ∀ id j, vers rt' id j = vers rt id j) (keep : List Nat) (ren : Ren) (p : P) : normP1 rt' keep ren p = normP1 rt keep ren p := by
 cases p with
 | ref id j st cut v => simp only [normP1, live_ver h]
 | addr id j st v => cases st <;> simp only [normP1, live_ver h]
 | _ => rfl
structure Sub (nv nb : List Nat) (c0 c : Cf) : Prop where
 size : c0.w.heap.size ≤ c.w.heap.size
 same : ∀ b, b < c0.w.heap.size → c0.O b = none → c.w.heap[b]? = c0.w.heap[b]? ∧ c.O b = none
 z : ∀ b, c0.Z b → c.Z b
 z' : ∀ b, c.Z b → c0.Z b ∨ c0.O b ≠ none ∨ c0.w.heap.size ≤ b
 v : ∀ id ∈ nv, ∀ u, c0.P1 (.ref id 0 [] none 0) u → c.P1 (.ref id 0 [] none 0) u
 env : SameEnv c0.w c.w
 b : ∀ id ∈ nb, (∀ u, c0.P1 (.addr id 0 [] 0) u → c.P1 (.addr id 0 [] 0) u) ∧ ∀ j u, c0.lkAt id j u → c.lkAt id j u
theorem To.sub {nv nb : List Nat} {c0 c : Cf} (t : To c0 c) : Sub nv nb c0 c :=
 ⟨t.ext.size, t.ext.same, t.ext.z, t.ext.z', fun _ _ _ h => t.stb _ _ h, t.ext.env, fun id _ => ⟨fun _ h => t.stb _ _ h, fun j u h => t.lk id j u h⟩⟩
theorem Sub.trans {nv nb : List Nat} {a b c : Cf} (h : Sub nv nb a b) (k : Sub nv nb b c) : Sub nv nb a c where
 size := Nat.le_trans h.size k.size
 same x hx hn := by
  obtain ⟨h1, h2⟩ := h.same x hx hn
  obtain ⟨k1, k2⟩ := k.same x (Nat.lt_of_lt_of_le hx h.size) h2
  exact ⟨k1.trans h1, k2⟩
 z x hx := k.z x (h.z x hx)
 z' x hx := by
  rcases k.z' x hx with h1 | h1 | h1
  ·exact h.z' x h1
  ·by_cases hl : x < a.w.heap.size
   ·by_cases hn : a.O x = none
    ·exact absurd (h.same x hl hn).2 h1
    ·exact .inr (.inl hn)
   ·exact .inr (.inr (by omega))
  ·exact .inr (.inr (Nat.le_trans h.size h1))
 v id hid u hu := k.v id hid u (h.v id hid u hu)
 env := h.env.trans k.env
 b id hid := ⟨fun u hu => (k.b id hid).1 u ((h.b id hid).1 u hu), fun j u hu => (k.b id hid).2 j u ((h.b id hid).2 j u hu)⟩
theorem norm_sound {h : Hint} {s : St} {x : LS} {c : Cf} {a : Act} (hat : At cx.nt c s a) (hn : normK cx h s = some x) : ∃ c', At cx.nt c' (unnorm h x) a ∧ c'.w = c.w ∧ Sub cx.nv cx.nb c c' := by
 unfold normK at hn
 obtain ⟨hk, hn⟩ := cond_s hn
 unfold norm at hn
 split at hn
 ·cases hn
 ·rename_i ren own hown
  obtain ⟨hap, hn⟩ := cond_s hn
  simp only [Bool.and_eq_true] at hap
  split at hn
  ·rename_i rs hrs
   obtain rfl := Option.some.inj hn
   have nd1 := allApart_nodup hap.1
   have nd2 := allApart_nodup hap.2
   obtain ⟨es, o1, o2, o3, o4, o5⟩ := owns_spec hown
   obtain ⟨es0, g1, g2, g3⟩ := getAll_spec hrs
   generalize hkeep : h.roots.map (·.1) ++ ren.map (·.1) = keep at *
   let dep : Root → List Nat := fun r => match r.cells with
    | [⟨_, _, .mk d _⟩] => [d]
    | _ => []
   let T : List (Nat × List Nat) := h.roots ++ es.filterMap fun e => e.src.map fun b => (b, dep e.r)
   have hT : T.map (·.1) = keep := by
    rw [← hkeep, o3]
    simp only [T, List.map_append]
    congr 1
    rw [List.map_filterMap, List.map_filterMap]
    congr 1
    funext e
    cases e.src <;> rfl
   have ndT : (T.map (·.1)).Nodup := by rw [hT]; exact nd1
   obtain ⟨O1, Z1, t1, n1⟩ := weakAll_to T c hat.inv
   have hver : ∀ id j, vers (weakAll c.rt T) id j = vers s.rt id j := fun id j => by rw [weakAll_ver, hat.rt]
   have srcs : (es0 ++ es).filterMap (·.src) = keep := by
    rw [List.filterMap_append, ← hkeep]
    congr 1
    ·rw [← g2]
     clear g1 g2 hrs
     induction es0 with
     | nil => rfl
     | cons e es0 ih => rw [List.filterMap_cons, (g3 e (by simp)).1, List.map_cons, ih fun e he => g3 e (by simp [he])]
    ·rw [o3, List.map_filterMap]
     congr 1
     funext e
     cases e.src <;> rfl
   have idsE : h.ids.map (·.1) = (es0 ++ es).map (·.id) := by
    unfold Hint.ids
    rw [List.map_append, List.map_append, g2, o2]
    rfl
   have hview : View ⟨weakAll c.rt T, c.w, c.γ, O1, Z1⟩ (es0 ++ es) (fun id => a.tmps.getD (id / 4) undef) keep ren (unnorm h ⟨h.slots.map (normSlot s keep ren), rs ++ own⟩).rt := by
    refine ⟨fun e he e' he' => map_inj (f := (·.id)) (by rw [← idsE]; exact nd2) e he e' he', fun e he e' he' b h1 h2 => filterMap_inj (f := (·.src)) (by rw [srcs]; exact nd1) e he e' he' b h1 h2, fun b => ?_, fun e he b hb => ?_, fun e he b hb => ?_, fun e he hb => ?_, ?_, ?_⟩
    ·rw [memN_mem, ← srcs, List.mem_filterMap]
    ·simp only [List.mem_append] at he
     rw [← hkeep] at nd1
     rw [List.nodup_append] at nd1
     rcases he with he | he
     ·obtain ⟨k1, _⟩ := g3 e he
      rw [hb] at k1
      obtain rfl := Option.some.inj k1
      refine renId_not fun hm => ?_
      exact nd1.2.2 e.id (by rw [← g2]; exact List.mem_map.2 ⟨e, he, rfl⟩) e.id hm rfl
     ·refine renId_at nd1.2.1 ?_
      rw [o3, List.mem_filterMap]
      exact ⟨e, he, by rw [hb]; rfl⟩
    ·simp only [List.mem_append] at he
     rcases he with he | he
     ·obtain ⟨k1, ds, r, k2, k3, k4⟩ := g3 e he
      rw [hb] at k1
      obtain rfl := Option.some.inj k1
      refine ⟨_, weakAll_at T c.rt e.id ds r ndT (by simp [T, k2]) (by rw [hat.rt]; exact k3), ?_⟩
      rw [k4]
      unfold normRoot viewRoot
      simp only [normCell_ver hver]
     ·obtain ⟨t, d, cs, k1, k2, k3⟩ := o4 e he
      rw [hb] at k3
      unfold ownSrc at k3
      split at k3
      ·obtain ⟨_, k3⟩ := cond_s k3; simp at k3
      ·split at k3
       ·obtain ⟨_, k3⟩ := cond_s k3; simp at k3
       ·cases k3
      ·rename_i id j st cut v hp
       split at k3
       ·obtain ⟨k4, k3⟩ := cond_s k3
        simp only [Bool.and_eq_true, Nat.beq_eq] at k4
        split at k3
        ·rename_i x hx
         split at k3
         ·rename_i d0 k hxc
          obtain ⟨k5, k3⟩ := cond_s k3
          simp only [Bool.and_eq_true, Nat.ble_eq] at k5
          split at k3
          ·rename_i xs hxs
           simp only [Option.some.injEq, Prod.mk.injEq] at k3
           obtain ⟨rfl, k6⟩ := k3
           obtain ⟨r, hr, hx0⟩ := cellAt_some hx
           have hvirt : r.virt = true := by have := k4.1; unfold isVirt at this; rw [hr] at this; exact this
           have hlen := ((hat.inv.root id r (by rw [hat.rt]; exact hr)).virt hvirt).1
           obtain ⟨rv, rc⟩ := r
           simp only at hvirt hlen hx0
           subst hvirt
           match rc, hlen with
           | [y], _ =>
            simp only [List.getElem?_cons_zero, Option.some.injEq] at hx0
            subst hx0
            have hk := CV.as_some hxs
            subst hk
            have hT2 : (id, dep e.r) ∈ T := by
             simp only [T, List.mem_append, List.mem_filterMap]
             exact .inr ⟨e, he, by rw [hb]; rfl⟩
            refine ⟨_, weakAll_at T c.rt id (dep e.r) _ ndT hT2 (by rw [hat.rt]; exact hr), ?_⟩
            rw [← k6]
            simp only [dep, rowRoot, viewRoot, PV.weaken, hxc, List.map_cons, List.map_nil, normCell, Nat.min_eq_right k5.2]
          ·cases k3
         ·cases k3
        ·cases k3
       ·cases k3
      ·cases k3
    ·simp only [List.mem_append] at he
     rcases he with he | he
     ·rw [(g3 e he).1] at hb; cases hb
     ·obtain ⟨t, d, cs, k1, k2, k3⟩ := o4 e he
      rw [hb] at k3
      have hG : a.tmps.getD (e.id / 4) undef = a.tmps.getD t undef := by rw [k2]; unfold canon; rw [Nat.mul_div_cancel_left t (by omega)]
      have hp := PR_stab t1.stb (hat.tm t)
      rw [hG]
      unfold ownSrc at k3
      split at k3
      ·rename_i hs
       rw [hs] at hp
       obtain ⟨_, k3⟩ := cond_s k3
       simp only [Option.some.injEq, Prod.mk.injEq, true_and] at k3
       refine ⟨d, cs, [], k3.symm, ?_⟩
       have hp : a.tmps.getD t undef = .slice none 0 0 := hp
       rw [hp]
       simp only [Rep]
       refine ⟨none, 0, rfl, Nat.le_refl _, ?_⟩
       cases d with
       | zero => exact ⟨trivial, fun i hi => absurd hi (Nat.not_lt_zero _)⟩
       | succ d => exact .inl ⟨rfl, rfl, trivial, trivial⟩
      ·rename_i k hs
       rw [hs] at hp
       split at k3
       ·rename_i xs hxs
        obtain ⟨hd, k3⟩ := cond_s k3
        have hd := Nat.eq_of_beq_eq_true hd
        simp only [Option.some.injEq, Prod.mk.injEq, true_and] at k3
        have hk := CV.as_some hxs
        subst hk
        exact ⟨0, cs, xs, k3.symm, hp⟩
       ·cases k3
      ·split at k3
       ·obtain ⟨_, k3⟩ := cond_s k3
        split at k3
        ·split at k3
         ·obtain ⟨_, k3⟩ := cond_s k3
          split at k3
          ·simp at k3
          ·cases k3
         ·cases k3
        ·cases k3
       ·cases k3
      ·cases k3
    ·have := (ofList_ids (E := es0 ++ es) idsE (by rw [← idsE]; exact nd2)).1
     intro e he
     have h2 := this e he
     simp only [unnorm]
     rw [List.map_append, g1, o1] at h2
     exact h2
    ·have := (ofList_ids (E := es0 ++ es) idsE (by rw [← idsE]; exact nd2)).2
     intro id hid
     have h2 := this id hid
     simp only [unnorm]
     rw [List.map_append, g1, o1] at h2
     exact h2
   refine ⟨⟨_, c.w, viewG ⟨weakAll c.rt T, c.w, c.γ, O1, Z1⟩ (es0 ++ es) (fun id => a.tmps.getD (id / 4) undef), viewO ⟨weakAll c.rt T, c.w, c.γ, O1, Z1⟩ keep ren, Z1⟩, ⟨hview.inv t1.inv, View.nd, rfl, hat.sz, hat.df, fun t => ?_⟩, rfl, ?_⟩
   ·
    have one : ∀ p u, c.P1 p u → PRep1 (unnorm h ⟨h.slots.map (normSlot s keep ren), rs ++ own⟩).rt c.w (viewG ⟨weakAll c.rt T, c.w, c.γ, O1, Z1⟩ (es0 ++ es) (fun id => a.tmps.getD (id / 4) undef)) Z1 (normP1 s.rt keep ren p) u := fun p u hp => by
     have := hview.p1 (p := p) (u := u) (t1.stb p u hp)
     rw [normP1_ver hver] at this
     exact this
    have oneA : ∀ p u, PRepA c.rt c.w c.γ c.Z p u → PRepA (unnorm h ⟨h.slots.map (normSlot s keep ren), rs ++ own⟩).rt c.w (viewG ⟨weakAll c.rt T, c.w, c.γ, O1, Z1⟩ (es0 ++ es) (fun id => a.tmps.getD (id / 4) undef)) Z1 (normP1 s.rt keep ren p) u := fun p u hp => by
     cases p with
     | agg l => trivial
     | tup l => trivial
     | dead => trivial
     | und => exact PRepA.of1 (one .und u hp)
     | cv k => exact PRepA.of1 (one (.cv k) u hp)
     | e => exact PRepA.of1 (one .e u hp)
     | ref id j st cut v => exact PRepA.of1 (one (.ref id j st cut v) u hp)
     | addr id j st v => exact PRepA.of1 (one (.addr id j st v) u hp)
     | ra cs xs i j => exact PRepA.of1 (one (.ra cs xs i j) u hp)
    show PRep _ _ _ _ (ofList P.dead h.slots (h.slots.map (normSlot s keep ren)) t) _
    rcases ofList_slots (l := h.slots) (t := t) (f := normSlot s keep ren) with e | ⟨⟨t', hs⟩, q1, rfl, q3⟩
    ·rw [e]; trivial
    ·rw [q3]
     cases hs with
     | keep =>
      have hp := hat.tm t'
      simp only [normSlot]
      cases hsl : s.tm t' with
      | agg l =>
       rw [hsl] at hp
       obtain ⟨vs, f1, f2, f3⟩ := hp
       refine ⟨vs, f1, by simpa using f2, fun i p u hp hu => ?_⟩
       rw [List.getElem?_map, Option.map_eq_some_iff] at hp
       obtain ⟨p0, hp0, rfl⟩ := hp
       exact one _ _ (f3 i p0 u hp0 hu)
      | tup l =>
       rw [hsl] at hp
       obtain ⟨vs, f1, f2, f3⟩ := hp
       refine ⟨vs, f1, by simpa using f2, fun i p u hp hu => ?_⟩
       rw [List.getElem?_map, Option.map_eq_some_iff] at hp
       obtain ⟨p0, hp0, rfl⟩ := hp
       exact oneA _ _ (f3 i p0 u hp0 hu)
      | dead => trivial
      | und => rw [hsl] at hp; exact hp
      | cv k => rw [hsl] at hp; exact PRep.of1 (c := ⟨_, c.w, _, O1, Z1⟩) (one (.cv k) _ hp)
      | e => rw [hsl] at hp; exact hp
      | ref id j st cut v => rw [hsl] at hp; exact PRep.of1 (c := ⟨_, c.w, _, O1, Z1⟩) (one (.ref id j st cut v) _ hp)
      | addr id j st v => rw [hsl] at hp; exact PRep.of1 (c := ⟨_, c.w, _, O1, Z1⟩) (one (.addr id j st v) _ hp)
      | ra cs xs i j => rw [hsl] at hp; exact PRep.of1 (c := ⟨_, c.w, _, O1, Z1⟩) (one (.ra cs xs i j) _ hp)
     | own d cs =>
      obtain ⟨e, he, k1, k2⟩ := o5 t' d cs q1
      have heE : e ∈ es0 ++ es := by simp [he]
      have hrt := hview.e8 e heE
      have hg := hview.g heE
      have hp := PR_stab t1.stb (hat.tm t')
      have hG : a.tmps.getD (e.id / 4) undef = a.tmps.getD t' undef := by rw [k1]; unfold canon; rw [Nat.mul_div_cancel_left t' (by omega)]
      have key : ∃ xs, e.r = rowRoot d cs xs ∧ viewG ⟨weakAll c.rt T, c.w, c.γ, O1, Z1⟩ (es0 ++ es) (fun id => a.tmps.getD (id / 4) undef) e.id = a.tmps.getD t' undef ∧ isSlice (a.tmps.getD t' undef) := by
       unfold ownSrc at k2
       split at k2
       ·rename_i hs
        rw [hs] at hp
        obtain ⟨_, k2⟩ := cond_s k2
        simp only [Option.some.injEq, Prod.mk.injEq] at k2
        rw [← k2.1] at hg
        have hp : a.tmps.getD t' undef = .slice none 0 0 := hp
        exact ⟨[], k2.2.symm, hg.trans hG, by rw [hp]; trivial⟩
       ·rename_i k hs
        rw [hs] at hp
        split at k2
        ·rename_i xs hxs
         obtain ⟨hd, k3⟩ := cond_s k2
         have hd := Nat.eq_of_beq_eq_true hd
         simp only [Option.some.injEq, Prod.mk.injEq] at k3
         rw [← k3.1] at hg
         have hk := CV.as_some hxs
         subst hk
         have hp : Rep c.w Z1 (.row cs) 0 xs (a.tmps.getD t' undef) nil' := hp
         exact ⟨xs, by rw [hd]; exact k3.2.symm, hg.trans hG, (Rep.slice hp).1 rfl⟩
        ·cases k2
       ·rename_i id j st cut v hs
        rw [hs] at hp
        split at k2
        ·obtain ⟨k4, k2⟩ := cond_s k2
         simp only [Bool.and_eq_true, Nat.beq_eq] at k4
         split at k2
         ·rename_i x hx
          split at k2
          ·rename_i d0 k hxc
           obtain ⟨k5, k2⟩ := cond_s k2
           simp only [Bool.and_eq_true, Nat.ble_eq, Nat.beq_eq] at k5
           split at k2
           ·rename_i xs hxs
            simp only [Option.some.injEq, Prod.mk.injEq] at k2
            rw [← k2.1] at hg
            obtain ⟨r, hr, hx0⟩ := cellAt_some hx
            have hvirt : r.virt = true := by have := k4.1; unfold isVirt at this; rw [hr] at this; exact this
            have hp0 := hat.tm t'
            rw [hs] at hp0
            obtain ⟨r', x', rv, m1, m2, m3, m4, m5⟩ := hp0
            rw [hat.rt, hr] at m1
            obtain rfl := Option.some.inj m1
            rw [k4.2, hx0] at m2
            obtain rfl := Option.some.inj m2
            have hro := m5 k5.1
            unfold RefOk at hro
            rw [hxc] at hro
            obtain ⟨v0, cs', xs', n1', n2, n3, n4, n5⟩ := hro
            simp only [pv, Option.some.injEq] at n2
            rw [k4.2] at m3
            unfold PV.rootVal at m3
            rw [hvirt] at m3
            simp only [Option.some.injEq] at m3
            refine ⟨xs, k2.2.symm, ?_, m4.2⟩
            rw [hg]
            show c.γ id = _
            rw [m3, n2, n5, cutV_none]
           ·cases k2
          ·cases k2
         ·cases k2
        ·cases k2
       ·cases k2
      obtain ⟨xs, f1, f2, f3⟩ := key
      simp only [normSlot]
      rw [k1] at hrt f2
      rw [f1] at hrt
      refine ⟨rowRoot d cs xs, ⟨0, 0, .mk d ⟨.row cs, xs⟩⟩, a.tmps.getD t' undef, hrt, rfl, by simp only [rowRoot, PV.rootVal, f2], ⟨Nat.le_refl _, f3⟩, fun _ => ?_⟩
      exact ⟨_, cs, xs, by simp only [inR], rfl, getP_nil _ _, (fun n h => by cases h), (cutV_none _).symm⟩
   ·
    unfold keeps at hk
    simp only [Bool.and_eq_true, List.all_eq_true] at hk
    have hroot : ∀ id, memN id (h.roots.map (·.1)) = true → ∃ e ∈ es0 ++ es, e.id = id ∧ e.src = some id := fun id hm => by
     have hm := memN_mem.1 hm
     rw [← g2, List.mem_map] at hm
     obtain ⟨e, he, rfl⟩ := hm
     exact ⟨e, by simp [he], rfl, (g3 e he).1⟩
    refine Sub.trans t1.sub ⟨Nat.le_refl _, fun b _ hb => ⟨rfl, View.none hb⟩, fun b hb => hb, fun b hb => .inl hb, fun id hid u hu => ?_, SameEnv.refl _, fun id hid => ?_⟩
    ·obtain ⟨m1, m2⟩ := hk.1 id hid
     obtain ⟨e, he, rfl, hsrc⟩ := hroot id m1
     have hp := hview.p1 hu
     have hlive : liveRef (weakAll c.rt T) keep e.id 0 [] 0 = true := by
      rw [live_ver hver]
      unfold liveRef
      rw [(hview.e3 e.id).2 ⟨e, he, hsrc⟩]
      split at m2
      ·rename_i r hr
       simp only [Bool.and_eq_true, List.all_eq_true, Nat.beq_eq] at m2
       obtain ⟨r1, x1, rv1, q1, q2, _⟩ := hu
       have hv := hver e.id 0
       unfold vers at hv
       rw [cellAt_eq q1 q2] at hv
       cases hc0 : cellAt s.rt e.id 0 with
       | none => rw [hc0] at hv; cases hv
       | some x0 =>
        obtain ⟨r2, hr2, hx2⟩ := cellAt_some hc0
        rw [hr] at hr2
        obtain rfl := Option.some.inj hr2
        have := m2.2 x0 (List.mem_of_getElem? hx2)
        simp only [Bool.true_and, VC.ok, this, Nat.beq_eq]
      ·cases m2
     simp only [normP1, hlive, cond_true] at hp
     rw [hview.e4 e he e.id hsrc] at hp
     exact hp
    ·obtain ⟨e, he, rfl, hsrc⟩ := hroot id (hk.2 id hid)
     refine ⟨fun u hu => ?_, fun j u hu => hview.lk he hsrc hu⟩
     have hp := hview.p1 hu
     simp only [normP1, (hview.e3 e.id).2 ⟨e, he, hsrc⟩, cond_true] at hp
     rw [hview.e4 e he e.id hsrc] at hp
     exact hp
  ·cases hn
end Go.PV

namespace Go.PV
variable {Pg : Program} {cx : Cx} {R : Type}
variable (ok : ∀ t, tyOk Pg t (cx.ty t) = true) (okE : ∀ t, cx.eqs t = true → eqOk Pg t (cx.ty t) = true) (hcall : CallOk Pg cx) (hsig : sigsOk cx) (hmix : Pg.follows .mixedOrders = true)
include ok okE hcall hsig hmix
theorem exec_sound {c0 : Cf} {r : R} : ∀ (code : Code) (n : Nat) (s : St) (K : St → Option R) (E : Nat → St → Option R) (T : St → Option R) (c : Cf) (a : Act) (Q : Exit → Act → World → Prop), exec cx code n s K E T = some r → At cx.nt c s a → Sub cx.nv cx.nb c0 c →
  (∀ c' s' a', At cx.nt c' s' a' → Sub cx.nv cx.nb c0 c' → K s' = some r → Q .normal a' c'.w) → (∀ i c' s' a', At cx.nt c' s' a' → Sub cx.nv cx.nb c0 c' → E i s' = some r → Q (.exit i) a' c'.w) →
  (∀ c' s' a', At cx.nt c' s' a' → Sub cx.nv cx.nb c0 c' → T s' = some r → Q .ret a' c'.w) → code.wp Pg Q a c.w := by
 intro code
 induction code with
 | skip => intro n s K E T c a Q h hat hs hK hE hT; exact wp_skip (hK c s a hat hs h)
 | region id ops draw =>
  intro n s K E T c a Q h hat hs hK hE hT
  exact region_sound ok okE hcall hsig hmix hat h fun c' s' a' hat' t hk => hK c' s' a' hat' (hs.trans t.sub) hk
 | seq x y ihx ihy =>
  intro n s K E T c a Q h hat hs hK hE hT
  simp only [exec] at h
  refine wp_seq ?_
  split at h
  ·exact ihx n s _ E T c a _ h hat hs (fun c' s' a' hat' hs' hk => ihy n s' K E T c' a' Q hk hat' hs' hK hE hT) hE hT
  ·rename_i hh _
   refine ihx n s _ E T c a _ h hat hs (fun c' s' a' hat' hs' hk => ?_) hE hT
   split at hk
   ·rename_i x hx
    obtain ⟨c2, h1, h2, h3⟩ := norm_sound hat' hx
    have := ihy n _ K E T c2 a' Q hk h1 (hs'.trans h3) hK hE hT
    rw [h2] at this
    exact this
   ·cases hk
 | cond q x y ihx ihy =>
  intro n s K E T c a Q h hat hs hK hE hT
  simp only [exec] at h
  split at h
  ·rename_i b hb
   have hev := hat.ev q
   rw [hb] at hev
   obtain ⟨e, _⟩ := PR_cv.1 hev
   refine wp_cond (t := b) e ?_
   cases b with
   | true => exact ihx n s K E T c a Q h hat hs hK hE hT
   | false => exact ihy n s K E T c a Q h hat hs hK hE hT
  ·cases h
 | block id x ih =>
  intro n s K E T c a Q h hat hs hK hE hT
  simp only [exec] at h
  refine wp_block (ih id s K _ T c a _ h hat hs hK (fun i c' s' a' hat' hs' hk => ?_) hT)
  show Exit.inBlock id Q (.exit i) a' c'.w
  unfold Exit.inBlock
  simp only
  cases hi : Nat.beq i id with
  | true =>
   rw [hi] at hk
   rw [if_pos (Nat.eq_of_beq_eq_true hi)]
   exact hK c' s' a' hat' hs' hk
  | false =>
   rw [hi] at hk
   rw [if_neg (fun e => by subst e; rw [← Bool.not_eq_true, Nat.beq_eq] at hi; exact hi rfl)]
   exact hE i c' s' a' hat' hs' hk
 | loop body ih =>
  intro n s K E T c a Q h hat hs hK hE hT
  simp only [exec] at h
  split at h
  ·rename_i y hy
   obtain ⟨c2, h1, h2, h3⟩ := norm_sound hat hy
   have key : ∀ (k : Nat) (y : LS) (c : Cf) (a : Act), loopK (fun x L => exec cx body n (unnorm (cx.hint n) x) (fun s => match normK cx (cx.hint n) s with | some y => L y | none => none) E T) k y = some r → At cx.nt c (unnorm (cx.hint n) y) a → Sub cx.nv cx.nb c0 c → Code.rounds Pg body Q k a c.w := by
    intro k
    induction k with
    | zero => intro y c a h _ _; cases h
    | succ k ihk =>
     intro y c a h hat hs
     refine ih n _ _ E T c a _ h hat hs (fun c' s' a' hat' hs' hk => ?_) hE hT
     split at hk
     ·rename_i y' hy'
      obtain ⟨c3, g1, g2, g3⟩ := norm_sound hat' hy'
      have := ihk y' c3 a' hk g1 (hs'.trans g3)
      rw [g2] at this
      exact this
     ·cases hk
   have := key _ y c2 a h h1 (hs.trans h3)
   rw [h2] at this
   exact wp_loop_rounds _ this
  ·cases h
 | exit id => intro n s K E T c a Q h hat hs hK hE hT; exact wp_exit (hE id c s a hat hs h)
 | ret => intro n s K E T c a Q h hat hs hK hE hT; exact wp_ret (hT c s a hat hs h)
 | _ => intro n s K E T c a Q h; cases h
end Go.PV

namespace Go.PV
noncomputable def baseO (F : Nat → Fp) : Own := fun b => open Classical in if h : ∃ i, F i b then some (.det h.choose) else none
theorem baseO_iff {F : Nat → Fp} (h1 : ∀ i j b, F i b → F j b → i = j) {b : Nat} {s : Site} : baseO F b = some s ↔ ∃ i, s = .det i ∧ F i b := by
 unfold baseO
 constructor
 ·intro h
  split at h
  ·rename_i hex; exact ⟨_, (Option.some.inj h).symm, hex.choose_spec⟩
  ·cases h
 ·rintro ⟨i, rfl, hf⟩
  have hex : ∃ i, F i b := ⟨i, hf⟩
  rw [dif_pos hex, h1 _ _ b hex.choose_spec hf]
theorem baseO_none {F : Nat → Fp} {b : Nat} : baseO F b = none ↔ ∀ i, ¬ F i b := by
 unfold baseO
 constructor
 ·intro h i hi
  rw [dif_pos ⟨i, hi⟩] at h; cases h
 ·intro h
  rw [dif_neg (fun ⟨i, hi⟩ => h i hi)]
noncomputable abbrev baseC (w : World) (Z : Fp) (F : Nat → Fp) : Cf := ⟨rtOf [], w, fun _ => undef, baseO F, Z⟩
theorem baseC_inv {w : World} {Z : Fp} {F : Nat → Fp} (h1 : ∀ i j b, F i b → F j b → i = j) (h2 : ∀ i b, F i b → ¬ Z b ∧ b < w.heap.size) (h3 : ∀ b, Z b → b < w.heap.size) : (baseC w Z F).Inv := by
 refine ⟨fun id r hr => (by cases hr), fun b hb => baseO_none.2 fun i hi => (h2 i b hi).1 hb, h3, fun b s hs => ?_, fun b id j hb => ?_, fun b id hb => ?_⟩
 ·obtain ⟨i, _, hi⟩ := (baseO_iff h1).1 hs
  exact (h2 i b hi).2
 ·obtain ⟨i, e, _⟩ := (baseO_iff h1).1 hb; cases e
 ·obtain ⟨i, e, _⟩ := (baseO_iff h1).1 hb; cases e
structure Ent0 (F : Nat → Fp) (c : Cf) (k : Nat) : Prop where
 det : ∀ b i, c.O b = some (.det i) ↔ F i b ∧ i < k
 rt : ∀ i, i < k → c.rt (parId i) = none
theorem parId_inj {i j : Nat} (h : parId i = parId j) : i = j := by unfold parId at h; omega
theorem parCells_to {F : Nat → Fp} : ∀ {pcs : List PC} {k : Nat} {cs : List CV} {us : List Value} {ps : List P} {rs : List (Nat × Root)} {cs' : List CV} {base : List (Nat × Root)} {w : World} {γ : Nat → Value} {O : Own} {Z : Fp}, parCells k pcs cs = some (ps, rs, cs') →
  Cf.Inv ⟨rtOf base, w, γ, O, Z⟩ → Ent0 F ⟨rtOf base, w, γ, O, Z⟩ (k + pcs.length) → us.length = pcs.length → (∀ (i : Nat) pc, pcs[i]? = some pc → ∃ x u, cs[i]? = some x ∧ us[i]? = some u ∧ EntIn w Z (.val pc) (some x) u (F (k + i))) →
  ∃ γ' O', To ⟨rtOf base, w, γ, O, Z⟩ ⟨rtOf (rs ++ base), w, γ', O', Z⟩ ∧ Ent0 F ⟨rtOf (rs ++ base), w, γ', O', Z⟩ k ∧ cs' = cs.drop pcs.length ∧ ps.length = pcs.length ∧ (∀ (i : Nat) p u, ps[i]? = some p → us[i]? = some u → PRep1 (rtOf (rs ++ base)) w γ' Z p u) ∧
   ∀ (i : Nat) pc u, pcs[i]? = some pc → pc.s.isRow = true → pc.d ≠ 0 → us[i]? = some u → PRep1 (rtOf (rs ++ base)) w γ' Z (.ref (parId (k + i)) 0 [] none 0) u
 | [], k, cs, us, ps, rs, cs', base, w, γ, O, Z, h, hc, h0, hl, hE => by
  simp only [parCells, Option.some.injEq, Prod.mk.injEq] at h
  obtain ⟨rfl, rfl, rfl⟩ := h
  exact ⟨γ, O, To.refl hc, h0, rfl, rfl, fun i p u hp => by simp at hp, fun i pc u hp => by simp at hp⟩
 | pc :: pcs, k, [], us, ps, rs, cs', base, w, γ, O, Z, h, _, _, _, _ => by simp [parCells] at h
 | pc :: pcs, k, cv :: cs, [], ps, rs, cs', base, w, γ, O, Z, _, _, _, hl, _ => by cases hl
 | pc :: pcs, k, cv :: cs, u0 :: us, ps, rs, cs', base, w, γ, O, Z, h, hc, h0, hl, hE => by
  simp only [parCells] at h
  split at h
  ·rename_i ps2 rs2 cs2 h2
   obtain ⟨γ1, O1, t1, e1, e2, e3, e4, e5⟩ := parCells_to (F := F) (us := us) h2 hc (by rw [show k + 1 + pcs.length = k + (pc :: pcs).length by simp only [List.length_cons]; omega]; exact h0) (by simpa using hl) fun i q hq => by
    obtain ⟨x, u, f1, f2, f3⟩ := hE (i + 1) q (by simpa using hq)
    exact ⟨x, u, by simpa using f1, by simpa using f2, by rw [show k + 1 + i = k + (i + 1) by omega]; exact f3⟩
   obtain ⟨x, u, f1, f2, f3⟩ := hE 0 pc rfl
   simp only [List.getElem?_cons_zero, Option.some.injEq] at f1 f2
   subst f1
   subst f2
   obtain ⟨f4, f5⟩ := f3
   obtain ⟨cvs, cvx⟩ := cv
   simp only at f4
   subst f4
   rw [Nat.add_zero] at f5
   cases hb : (pc.s.isRow && !(Nat.beq pc.d 0)) with
   | true =>
    rw [hb] at h
    simp only [Option.some.injEq, Prod.mk.injEq] at h
    obtain ⟨rfl, rfl, rfl⟩ := h
    obtain ⟨s, d, d2, kept⟩ := pc
    cases s with
    | row ss =>
     have hF : (fun b => O1 b = some (.det k)) = F k := by
      funext b
      have := e1.det b k
      simp only [this, eq_iff_iff]
      exact ⟨fun h => h.1, fun h => ⟨h, by omega⟩⟩
     obtain ⟨O2, t2, o2, p2⟩ := row_to' (c := ⟨rtOf (rs2 ++ base), w, γ1, O1, Z⟩) t1.inv (id := parId k) (e1.rt k (by omega)) (k := k) (d := d) (xs := cvx) (v := u0) (by rw [hF]; exact f5)
     refine ⟨upd γ1 (parId k) u0, O2, t1.trans t2, ⟨fun b i => ?_, fun i hi => ?_⟩, by rw [e2]; rfl, by simp [e3], fun i p u hp hu => ?_, fun i pc u hp h1 h2 hu => ?_⟩
     ·rw [o2, e1.det]
      exact ⟨fun h => ⟨h.1.1, by omega⟩, fun h => ⟨⟨h.1, by omega⟩, by omega⟩⟩
     ·show setRt (rtOf (rs2 ++ base)) (parId k) _ (parId i) = none
      rw [setRt_ne (fun e => by have := parId_inj e; omega)]
      exact e1.rt i (by omega)
     ·cases i with
      | zero =>
       simp only [List.getElem?_cons_zero, Option.some.injEq] at hp hu
       subst hp
       subst hu
       exact p2
      | succ i => exact t2.stb _ _ (e4 i p u (by simpa using hp) (by simpa using hu))
     ·cases i with
      | zero =>
       simp only [List.getElem?_cons_zero, Option.some.injEq] at hp hu
       subst hu
       exact p2
      | succ i =>
       have := t2.stb _ _ (e5 i pc u (by simpa using hp) h1 h2 (by simpa using hu))
       rw [show k + 1 + i = k + (i + 1) by omega] at this
       exact this
    | _ => cases hb
   | false =>
    rw [hb] at h
    simp only [Option.some.injEq, Prod.mk.injEq] at h
    obtain ⟨rfl, rfl, rfl⟩ := h
    have hnil : Rep w Z pc.s 0 cvx u0 nil' ∧ ∀ b, ¬ F k b := by
     simp only [Bool.and_eq_false_imp, Bool.not_eq_false', Nat.beq_eq] at hb
     cases hrow : pc.s.isRow with
     | true =>
      have hd := hb hrow
      rw [hd] at f5
      have e := f5.ro_nil'
      rw [e] at f5
      exact ⟨f5, fun b hbb => by rw [e] at hbb; exact hbb⟩
     | false =>
      have e := Rep.flat_nil hrow f5
      rw [e] at f5
      exact ⟨f5.scalar hrow, fun b hbb => by rw [e] at hbb; exact hbb⟩
    refine ⟨γ1, O1, t1, ⟨fun b i => ?_, fun i hi => e1.rt i (by omega)⟩, by rw [e2]; rfl, by simp [e3], fun i p u hp hu => ?_, fun i pc' u hp h1 h2 hu => ?_⟩
    ·rw [e1.det]
     constructor
     ·rintro ⟨q1, q2⟩
      refine ⟨q1, ?_⟩
      rcases Nat.eq_or_lt_of_le (Nat.le_of_lt_succ q2) with rfl | q
      ·exact absurd q1 (hnil.2 b)
      ·exact q
     ·rintro ⟨q1, q2⟩; exact ⟨q1, by omega⟩
    ·cases i with
     | zero =>
      simp only [List.getElem?_cons_zero, Option.some.injEq] at hp hu
      subst hp
      subst hu
      exact hnil.1
     | succ i => exact e4 i p u (by simpa using hp) (by simpa using hu)
    ·cases i with
     | zero =>
      simp only [List.getElem?_cons_zero, Option.some.injEq] at hp
      subst hp
      simp only [h1, Bool.true_and, Bool.not_eq_false', Nat.beq_eq] at hb
      exact absurd hb h2
     | succ i =>
      have := e5 i pc' u (by simpa using hp) h1 h2 (by simpa using hu)
      rw [show k + 1 + i = k + (i + 1) by omega] at this
      exact this
  ·cases h
theorem boxCells_at : ∀ {l : List PC} {cs : List CV} {vs : List VC} {cs' : List CV}, boxCells l cs = some (vs, cs') → cs' = cs.drop l.length ∧ vs.length = l.length ∧ l.length ≤ cs.length ∧ ∀ (j : Nat) x, vs[j]? = some x → ∃ pc cv, l[j]? = some pc ∧ cs[j]? = some cv ∧ x = ⟨0, 0, match pc.kept with | true => .mk pc.d cv | false => .lk cv⟩
 | [], cs, vs, cs', h => by
  simp only [boxCells, Option.some.injEq, Prod.mk.injEq] at h
  obtain ⟨rfl, rfl⟩ := h
  exact ⟨rfl, rfl, Nat.zero_le _, fun j x hx => by simp at hx⟩
 | _ :: _, [], _, _, h => by cases h
 | pc :: l, cv :: cs, vs, cs', h => by
  simp only [boxCells] at h
  split at h
  ·rename_i vs2 r hb
   simp only [Option.some.injEq, Prod.mk.injEq] at h
   obtain ⟨rfl, rfl⟩ := h
   obtain ⟨h1, h2, h4, h3⟩ := boxCells_at hb
   refine ⟨h1, by simp [h2], by simpa using h4, fun j x hx => ?_⟩
   cases j with
   | zero =>
    simp only [List.getElem?_cons_zero, Option.some.injEq] at hx
    exact ⟨pc, cv, rfl, rfl, hx.symm⟩
   | succ j => exact h3 j x (by simpa using hx)
  ·cases h
theorem pad_split : ∀ {pcs : List PC} {es : List Ent} {cs : List CV} {xs : List (Option CV)}, (pad (pcs.map .val ++ es) cs = some xs ∨ pad (pcs.map .cell ++ es) cs = some xs) → ∃ xs2, pcs.length ≤ cs.length ∧ xs = (cs.take pcs.length).map some ++ xs2 ∧ pad es (cs.drop pcs.length) = some xs2
 | [], es, cs, xs, h => ⟨xs, Nat.zero_le _, rfl, by simpa using h⟩
 | pc :: pcs, es, [], xs, h => by simp [pad] at h
 | pc :: pcs, es, c :: cs, xs, h => by
  have key : ∃ ys, (pad (pcs.map .val ++ es) cs = some ys ∨ pad (pcs.map .cell ++ es) cs = some ys) ∧ xs = some c :: ys := by
   rcases h with h | h
   ·simp only [List.map_cons, List.cons_append, pad, Option.map_eq_some_iff] at h
    obtain ⟨ys, h1, rfl⟩ := h
    exact ⟨ys, .inl h1, rfl⟩
   ·simp only [List.map_cons, List.cons_append, pad, Option.map_eq_some_iff] at h
    obtain ⟨ys, h1, rfl⟩ := h
    exact ⟨ys, .inr h1, rfl⟩
  obtain ⟨ys, h1, rfl⟩ := key
  obtain ⟨xs2, h2, h3, h4⟩ := pad_split h1
  exact ⟨xs2, by simpa using h2, by simp [h3], by simpa using h4⟩
structure ParF (c : Cf) (pars : List Par) (k : Nat) (us : List Value) : Prop where
 v : ∀ (i : Nat) pc u, (ents pars)[i]? = some (.val pc) → Ent.back (.val pc) = true → pc.s.isRow = true → us[i]? = some u → c.P1 (.ref (parId (k + i)) 0 [] none 0) u
 b : ∀ (i : Nat) n u, (ents pars)[i]? = some (.box n) → us[i]? = some u → c.P1 (.addr (parId (k + i)) 0 [] 0) u
 lk : ∀ (i : Nat) n j pc u, (ents pars)[i]? = some (.box n) → j < n → (ents pars)[i + 1 + j]? = some (.cell pc) → pc.kept = false → us[i + 1 + j]? = some u → c.lkAt (parId (k + i)) j u
theorem enter_to {F : Nat → Fp} {w : World} {Z : Fp} : ∀ {pars : List Par} {k : Nat} {cs : List CV} {xs : List (Option CV)} {vs us : List Value} {ps : List P} {rs : List (Nat × Root)} {γ : Nat → Value} {O : Own}, enter k pars cs = some (ps, rs) → pad (ents pars) cs = some xs → Flat w pars vs us →
  (∀ (i : Nat) e x u, (ents pars)[i]? = some e → xs[i]? = some x → us[i]? = some u → EntIn w Z e x u (F (k + i))) → Cf.Inv ⟨rtOf [], w, γ, O, Z⟩ → Ent0 F ⟨rtOf [], w, γ, O, Z⟩ (k + (ents pars).length) →
  ∃ γ' O', To ⟨rtOf [], w, γ, O, Z⟩ ⟨rtOf rs, w, γ', O', Z⟩ ∧ Ent0 F ⟨rtOf rs, w, γ', O', Z⟩ k ∧ ps.length = vs.length ∧ (∀ (i : Nat) p v, ps[i]? = some p → vs[i]? = some v → PRep (rtOf rs) w γ' Z p v) ∧ ParF ⟨rtOf rs, w, γ', O', Z⟩ pars k us
 | [], k, [], xs, vs, us, ps, rs, γ, O, h, hp, hf, hE, hc, h0 => by
  simp only [enter, Option.some.injEq, Prod.mk.injEq] at h
  obtain ⟨rfl, rfl⟩ := h
  cases vs with
  | nil => exact ⟨γ, O, To.refl hc, h0, rfl, fun i p v hp => by simp at hp, ⟨fun i pc u hp => by simp [ents] at hp, fun i n u hp => by simp [ents] at hp, fun i n j pc u hp => by simp [ents] at hp⟩⟩
  | cons _ _ => exact hf.elim
 | [], _, _ :: _, _, _, _, _, _, _, _, h, _, _, _, _, _ => by cases h
 | .val a pcs :: pars, k, cs, xs, [], us, ps, rs, γ, O, h, hp, hf, hE, hc, h0 => hf.elim
 | .ptr pcs :: pars, k, cs, xs, [], us, ps, rs, γ, O, h, hp, hf, hE, hc, h0 => hf.elim
 | .val a pcs :: pars, k, cs, xs, v :: vs, us, ps, rs, γ, O, h, hp, hf, hE, hc, h0 => by
  obtain ⟨us1, us2, rfl, hl1, hsl, hf2⟩ := hf
  obtain ⟨xs2, p1, rfl, p2⟩ := pad_split (.inl (by simpa [ents] using hp))
  simp only [enter] at h
  split at h
  ·rename_i ps1 rs1 cs1 h1
   split at h
   ·rename_i qs rs2 h2
    simp only [Option.some.injEq, Prod.mk.injEq] at h
    obtain ⟨rfl, rfl⟩ := h
    have hcs1 : cs1 = cs.drop pcs.length := by
     have key : ∀ {pcs : List PC} {k : Nat} {cs : List CV} {ps rs cs'}, parCells k pcs cs = some (ps, rs, cs') → cs' = cs.drop pcs.length := by
      intro pcs
      induction pcs with
      | nil => intro k cs ps rs cs' h; simp only [parCells, Option.some.injEq, Prod.mk.injEq] at h; exact h.2.2.symm
      | cons pc pcs ih =>
       intro k cs ps rs cs' h
       cases cs with
       | nil => simp [parCells] at h
       | cons c cs =>
        simp only [parCells] at h
        split at h
        ·rename_i h3
         split at h
         ·simp only [Option.some.injEq, Prod.mk.injEq] at h
          rw [← h.2.2]; exact ih h3
         ·simp only [Option.some.injEq, Prod.mk.injEq] at h
          rw [← h.2.2]; exact ih h3
        ·cases h
     exact key h1
    subst hcs1
    have hlen : (ents (.val a pcs :: pars)).length = pcs.length + (ents pars).length := by simp [ents]
    have entR : ∀ (m : Nat), (ents (.val a pcs :: pars))[pcs.length + m]? = (ents pars)[m]? := fun m => by
     simp only [ents]
     have := some_right (a := pcs.map Ent.val) (b := ents pars) (k := m)
     rwa [List.length_map] at this
    obtain ⟨γ1, O1, t1, e1, e2, e3, e4⟩ := enter_to (F := F) h2 p2 hf2 (fun i e x u q1 q2 q3 => by
     have := hE (pcs.length + i) e x u (by rw [entR]; exact q1) (by
      have := some_right (a := (cs.take pcs.length).map some) (b := xs2) (k := i)
      rw [List.length_map, List.length_take, Nat.min_eq_left p1] at this
      rw [this]; exact q2) (by rw [← hl1, some_right]; exact q3)
     rw [show k + pcs.length + i = k + (pcs.length + i) by omega]
     exact this) hc (by rw [hlen] at h0; rw [show k + pcs.length + (ents pars).length = k + (pcs.length + (ents pars).length) by omega]; exact h0)
    obtain ⟨γ2, O2, t2, f1, f2, f3, f4, f5⟩ := parCells_to (F := F) h1 t1.inv e1 hl1 fun i pc hpc => by
     have hi := (List.getElem?_eq_some_iff.1 hpc).1
     have hcs : i < cs.length := by omega
     have hus : i < us1.length := by omega
     refine ⟨cs[i], us1[i], by simp [hcs], by simp [hus], ?_⟩
     refine hE i (.val pc) (some cs[i]) us1[i] ?_ ?_ ?_
     ·simp only [ents]
      rw [List.getElem?_append_left (by simpa using hi), List.getElem?_map, hpc]; rfl
     ·rw [List.getElem?_append_left (by simp; omega), List.getElem?_map, List.getElem?_take_of_lt hi]
      simp [hcs]
     ·rw [List.getElem?_append_left hus]; simp [hus]
    refine ⟨γ2, O2, t1.trans t2, f1, by simp [e2], fun i p u hpp hu => ?_, ?_⟩
    ·cases i with
     | zero =>
      simp only [List.getElem?_cons_zero, Option.some.injEq] at hpp hu
      subst hpp
      subst hu
      cases a with
      | true =>
       simp only [slotV] at hsl
       exact ⟨us1.toArray, hsl, by simp [f3, hl1], fun i p u hp hu => f4 i p u hp (by simpa using hu)⟩
      | false =>
       simp only [slotV] at hsl
       subst hsl
       simp only [List.length_cons, List.length_nil] at hl1
       match ps1, f3.trans hl1.symm with
       | [p], _ => exact PRep.of1 (c := ⟨_, w, γ2, O2, Z⟩) (f4 0 p v rfl rfl)
     | succ i => exact PR_stab (c := ⟨rtOf rs2, w, γ1, O1, Z⟩) (c' := ⟨_, w, γ2, O2, Z⟩) t2.stb (e3 i p u (by simpa using hpp) (by simpa using hu))
    ·refine ⟨fun i pc u q1 qb q2 q4 => ?_, fun i n u q1 q2 => ?_, fun i n j pc u q1 q2 q3 q4 q5 => ?_⟩
     ·simp only [ents] at q1
      rcases split_at q1 with q1' | ⟨m, rfl, q1'⟩
      ·rw [List.getElem?_map, Option.map_eq_some_iff] at q1'
       obtain ⟨pc', g1, g2⟩ := q1'
       cases g2
       have hi := (List.getElem?_eq_some_iff.1 g1).1
       rw [List.getElem?_append_left (by omega)] at q4
       exact f5 i pc u g1 q2 (fun e => by simp [Ent.back, e] at qb) q4
      ·rw [List.length_map, ← hl1, some_right] at q4
       have := t2.stb _ _ (e4.v m pc u q1' qb q2 q4)
       rw [List.length_map, show k + (pcs.length + m) = k + pcs.length + m by omega]
       exact this
     ·simp only [ents] at q1
      rcases split_at q1 with q1' | ⟨m, rfl, q1'⟩
      ·rw [List.getElem?_map, Option.map_eq_some_iff] at q1'
       obtain ⟨pc', g1, g2⟩ := q1'
       cases g2
      ·rw [List.length_map, ← hl1, some_right] at q2
       have := t2.stb _ _ (e4.b m n u q1' q2)
       rw [List.length_map, show k + (pcs.length + m) = k + pcs.length + m by omega]
       exact this
     ·simp only [ents] at q1
      rcases split_at q1 with q1' | ⟨m, rfl, q1'⟩
      ·rw [List.getElem?_map, Option.map_eq_some_iff] at q1'
       obtain ⟨pc', g1, g2⟩ := q1'
       cases g2
      ·rw [List.length_map] at q3 q5
       rw [show pcs.length + m + 1 + j = pcs.length + (m + 1 + j) by omega, entR] at q3
       rw [show pcs.length + m + 1 + j = us1.length + (m + 1 + j) by omega, some_right] at q5
       have := t2.lk _ _ _ (e4.lk m n j pc u q1' q2 q3 q4 q5)
       rw [List.length_map, show k + (pcs.length + m) = k + pcs.length + m by omega]
       exact this
   ·cases h
  ·cases h
 | .ptr pcs :: pars, k, cs, xs, v :: vs, us, ps, rs, γ, O, h, hp, hf, hE, hc, h0 => by
  obtain ⟨us1, us2, b, Et, fz, rfl, hl1, rfl, hheap, hfree, hf2⟩ := hf
  simp only [ents, pad, Option.map_eq_some_iff] at hp
  obtain ⟨xs', hp, rfl⟩ := hp
  obtain ⟨xs2, p1, rfl, p2⟩ := pad_split (.inr hp)
  simp only [enter] at h
  split at h
  ·rename_i vcs cs1 h1
   split at h
   ·rename_i qs rs2 h2
    simp only [Option.some.injEq, Prod.mk.injEq] at h
    obtain ⟨rfl, rfl⟩ := h
    obtain ⟨rfl, b2, b4, b3⟩ := boxCells_at h1
    have hlen : (ents (.ptr pcs :: pars)).length = 1 + pcs.length + (ents pars).length := by simp [ents]; omega
    have entR : ∀ (m : Nat), (ents (.ptr pcs :: pars))[pcs.length + m + 1]? = (ents pars)[m]? := fun m => by
     simp only [ents, List.getElem?_cons_succ]
     have := some_right (a := pcs.map Ent.cell) (b := ents pars) (k := m)
     rwa [List.length_map] at this
    obtain ⟨γ1, O1, t1, e1, e2, e3, e4⟩ := enter_to (F := F) h2 p2 hf2 (fun i e x u q1 q2 q3 => by
     have := hE (pcs.length + i + 1) e x u (by rw [entR]; exact q1) (by
      rw [List.getElem?_cons_succ]
      have := some_right (a := (cs.take pcs.length).map some) (b := xs2) (k := i)
      rw [List.length_map, List.length_take, Nat.min_eq_left p1] at this
      rw [this]; exact q2) (by rw [List.getElem?_cons_succ, ← hl1, some_right]; exact q3)
     rw [show k + 1 + pcs.length + i = k + (pcs.length + i + 1) by omega]
     exact this) hc (by rw [hlen] at h0; rw [show k + 1 + pcs.length + (ents pars).length = k + (1 + pcs.length + (ents pars).length) by omega]; exact h0)
    have hcellE : ∀ (j : Nat) pc cv, pcs[j]? = some pc → cs[j]? = some cv → ∃ u, us1[j]? = some u ∧ EntIn w Z (.cell pc) (some cv) u (F (k + 1 + j)) := fun j pc cv q1 q2 => by
     have hi := (List.getElem?_eq_some_iff.1 q1).1
     have hus : j < us1.length := by omega
     refine ⟨us1[j], by simp [hus], ?_⟩
     rw [show k + 1 + j = k + (j + 1) by omega]
     refine hE (j + 1) (.cell pc) (some cv) us1[j] ?_ ?_ ?_
     ·simp only [ents, List.getElem?_cons_succ]
      rw [List.getElem?_append_left (by simpa using hi), List.getElem?_map, q1]; rfl
     ·rw [List.getElem?_cons_succ, List.getElem?_append_left (by simp; omega), List.getElem?_map, List.getElem?_take_of_lt hi, q2]; rfl
     ·rw [List.getElem?_cons_succ, List.getElem?_append_left hus]; simp [hus]
    have hbox : ∃ b', (Value.pointer (some ⟨b, 0, none⟩)) = .pointer (some ⟨b', 0, none⟩) ∧ F (k + 0) = fun b'' => b'' = b' := hE 0 (.box pcs.length) none _ rfl rfl rfl
    obtain ⟨b', hb1, hb2⟩ := hbox
    obtain rfl : b = b' := by simpa using hb1
    rw [Nat.add_zero] at hb2
    have hB : ∀ b'', O1 b'' = some (.det k) ↔ b'' = b := fun b'' => by
     rw [show O1 b'' = some (.det k) ↔ _ from e1.det b'' k, hb2]
     exact ⟨fun h => h.1, fun h => ⟨h, by omega⟩⟩
    have hFj : ∀ j, j < pcs.length → (fun b'' => j < pcs.length ∧ O1 b'' = some (.det (k + 1 + j))) = F (k + 1 + j) := fun j hj => by
     funext b''
     have := e1.det b'' (k + 1 + j)
     simp only [this, eq_iff_iff]
     exact ⟨fun h => h.2.1, fun h => ⟨hj, h, by omega⟩⟩
    obtain ⟨O2, ⟨i1, l1, s1⟩, oN, oS⟩ := attach_to (c := ⟨rtOf rs2, w, γ1, O1, Z⟩) t1.inv (id := parId k) (e1.rt k (by omega)) (r := ⟨false, vcs⟩) (g := .pointer (some ⟨b, 0, none⟩)) (fun j b'' => j < pcs.length ∧ O1 b'' = some (.det (k + 1 + j))) (fun b'' => O1 b'' = some (.det k))
     (fun j b'' h => ⟨_, h.2⟩) (fun i j b'' h1 h2 => by
      have := h1.2.symm.trans h2.2
      simp only [Option.some.injEq, Site.det.injEq] at this
      omega) (fun h => by cases h) (fun _ => ⟨b, us1.toArray, Et, fz, rfl, hheap, by simp [b2, hl1], by simpa using hfree, hB, fun j hj => by
       have := hj.2.symm.trans ((hB b).2 rfl)
       simp only [Option.some.injEq, Site.det.injEq] at this
       omega, fun hz => (by have := (show O1 b = none from t1.inv.zo b hz); rw [(hB b).2 rfl] at this; cases this), .inr ⟨_, (hB b).2 rfl⟩⟩) (fun j b'' h => by rw [b2]; exact h.1) (fun j x hx => by
      obtain ⟨pc, cv, q1, q2, rfl⟩ := b3 j x hx
      obtain ⟨u, q3, q4⟩ := hcellE j pc cv q1 q2
      have hj := (List.getElem?_eq_some_iff.1 q1).1
      refine ⟨u, ?_, ?_⟩
      ·simp only [PV.rootVal, World.cell?, hheap]
       simpa using q3
      ·obtain ⟨q5, q6⟩ := q4
       cases hk : pc.kept with
       | true =>
        rw [hk] at q6
        simp only [hFj j hj]
        exact q6
       | false =>
        rw [hk] at q6
        simp only [cond_false] at q6
        have e := q6.ro_nil'
        rw [e] at q6
        refine ⟨q6, fun b'' hb'' => ?_⟩
        have h3 : F (k + 1 + j) b'' := by rw [← hFj j hj]; exact hb''
        rw [e] at h3
        exact h3)
    have t2 : To ⟨rtOf rs2, w, γ1, O1, Z⟩ ⟨rtOf ((parId k, ⟨false, vcs⟩) :: rs2), w, upd γ1 (parId k) (.pointer (some ⟨b, 0, none⟩)), O2, Z⟩ := To.attach (To.refl t1.inv) i1 l1 s1 rfl rfl (fun i h => setRt_some h) fun b'' hb hn => (oN b'' (fun j h => by rw [show O1 b'' = none from hn] at h; cases h.2) (fun h => by rw [show O1 b'' = none from hn] at h; cases h)).trans hn
    have hself : rtOf ((parId k, ⟨false, vcs⟩) :: rs2) (parId k) = some ⟨false, vcs⟩ := setRt_self
    have hγ : upd γ1 (parId k) (.pointer (some ⟨b, 0, none⟩)) (parId k) = .pointer (some ⟨b, 0, none⟩) := by simp [upd]
    have paddr : PRep1 (rtOf ((parId k, ⟨false, vcs⟩) :: rs2)) w (upd γ1 (parId k) (.pointer (some ⟨b, 0, none⟩))) Z (.addr (parId k) 0 [] 0) (.pointer (some ⟨b, 0, none⟩)) := ⟨_, hself, rfl, b, hγ, rfl⟩
    refine ⟨_, O2, t1.trans t2, ⟨fun b'' i => ?_, fun i hi => ?_⟩, by simp [e2], fun i p u hpp hu => ?_, ?_⟩
    ·constructor
     ·intro hb
      rcases oS b'' _ hb with ⟨j, e, _⟩ | ⟨e, _⟩ | ⟨e, hne, hnb⟩
      ·cases e
      ·cases e
      ·obtain ⟨q1, q2⟩ := (e1.det b'' i).1 e
       refine ⟨q1, ?_⟩
       rcases Nat.lt_trichotomy i k with q | q | q
       ·exact q
       ·subst q; exact absurd e hnb
       ·exact absurd ⟨by omega, by rw [show k + 1 + (i - (k + 1)) = i by omega]; exact e⟩ (hne (i - (k + 1)))
     ·rintro ⟨q1, q2⟩
      have q3 := (e1.det b'' i).2 ⟨q1, by omega⟩
      refine (oN b'' (fun j h => ?_) (fun h => ?_)).trans q3
      ·have := (show O1 b'' = _ from q3).symm.trans h.2
       simp only [Option.some.injEq, Site.det.injEq] at this
       omega
      ·have := (show O1 b'' = _ from q3).symm.trans h
       simp only [Option.some.injEq, Site.det.injEq] at this
       omega
    ·show setRt (rtOf rs2) (parId k) _ (parId i) = none
     rw [setRt_ne (fun e => by have := parId_inj e; omega)]
     exact e1.rt i (by omega)
    ·cases i with
     | zero =>
      simp only [List.getElem?_cons_zero, Option.some.injEq] at hpp hu
      subst hpp
      subst hu
      exact PRep.of1 (c := ⟨_, w, _, O2, Z⟩) paddr
     | succ i => exact PR_stab (c := ⟨rtOf rs2, w, γ1, O1, Z⟩) (c' := ⟨_, w, _, O2, Z⟩) t2.stb (e3 i p u (by simpa using hpp) (by simpa using hu))
    ·refine ⟨fun i pc u q1 qb q2 q4 => ?_, fun i n u q1 q2 => ?_, fun i n j pc u q1 q2 q3 q4 q5 => ?_⟩
     ·cases i with
      | zero => simp [ents] at q1
      | succ i =>
       simp only [ents, List.getElem?_cons_succ] at q1
       rcases split_at q1 with q1' | ⟨m, rfl, q1'⟩
       ·rw [List.getElem?_map, Option.map_eq_some_iff] at q1'
        obtain ⟨pc', g1, g2⟩ := q1'
        cases g2
       ·rw [List.getElem?_cons_succ, List.length_map, ← hl1, some_right] at q4
        have := t2.stb _ _ (e4.v m pc u q1' qb q2 q4)
        rw [List.length_map, show k + (pcs.length + m + 1) = k + 1 + pcs.length + m by omega]
        exact this
     ·cases i with
      | zero =>
       simp only [List.getElem?_cons_zero, Option.some.injEq] at q2
       subst q2
       exact paddr
      | succ i =>
       simp only [ents, List.getElem?_cons_succ] at q1
       rcases split_at q1 with q1' | ⟨m, rfl, q1'⟩
       ·rw [List.getElem?_map, Option.map_eq_some_iff] at q1'
        obtain ⟨pc', g1, g2⟩ := q1'
        cases g2
       ·rw [List.getElem?_cons_succ, List.length_map, ← hl1, some_right] at q2
        have := t2.stb _ _ (e4.b m n u q1' q2)
        rw [List.length_map, show k + (pcs.length + m + 1) = k + 1 + pcs.length + m by omega]
        exact this
     ·cases i with
      | zero =>
       simp only [ents, List.getElem?_cons_zero, Option.some.injEq, Ent.box.injEq] at q1
       subst q1
       rw [show 0 + 1 + j = j + 1 by omega] at q3 q5
       simp only [ents, List.getElem?_cons_succ] at q3 q5
       rw [List.getElem?_append_left (by simpa using q2), List.getElem?_map, Option.map_eq_some_iff] at q3
       obtain ⟨pc', g1, g2⟩ := q3
       cases g2
       rw [List.getElem?_append_left (by omega)] at q5
       have hvl : j < vcs.length := by omega
       obtain ⟨pc2, cv, m1, m2, m3⟩ := b3 j vcs[j] (by simp [hvl])
       rw [g1] at m1
       obtain rfl := Option.some.inj m1
       refine ⟨_, vcs[j], cv, hself, by simp [hvl], by rw [m3, q4], ?_⟩
       simp only [Nat.add_zero, PV.rootVal, hγ, World.cell?, hheap]
       simpa using q5
      | succ i =>
       simp only [ents, List.getElem?_cons_succ] at q1
       rcases split_at q1 with q1' | ⟨m, rfl, q1'⟩
       ·rw [List.getElem?_map, Option.map_eq_some_iff] at q1'
        obtain ⟨pc', g1, g2⟩ := q1'
        cases g2
       ·rw [List.length_map] at q3 q5
        rw [show pcs.length + m + 1 + 1 + j = pcs.length + (m + 1 + j) + 1 by omega, entR] at q3
        rw [show pcs.length + m + 1 + 1 + j = us1.length + (m + 1 + j) + 1 by omega, List.getElem?_cons_succ, some_right] at q5
        have := t2.lk _ _ _ (e4.lk m n j pc u q1' q2 q3 q4 q5)
        rw [List.length_map, show k + (pcs.length + m + 1) = k + 1 + pcs.length + m by omega]
        exact this
   ·cases h
  ·cases h
end Go.PV

namespace Go.PV
variable {Pg : Program} {cx : Cx}
def ResV (c : Cf) (q : Bool × List P) (v : Value) : Prop := match q.1 with
 | true => c.PR (.agg q.2) v
 | false => ∃ p, q.2 = [p] ∧ c.PR p v
def resOne (tmps : Array Value) : ResultVar → Sem Value
 | .tmp t => pure (tmps.getD t undef)
 | .cell a t => do loadVar t (← asAddr (tmps.getD a undef))
theorem results_eq (fn : Func) (tmps : Array Value) : results fn tmps = (do let vs ← fn.results.mapM (resOne tmps); pure (if h : vs.size = 1 then vs[0] else .tuple vs)) := by
 unfold results
 congr 1
theorem resPs_run (ok : ∀ t, tyOk Pg t (cx.ty t) = true) {nt : Nat} {c : Cf} {s : St} {a : Act} (hat : At nt c s a) : ∀ {l : List ResultVar} {pss : List (Bool × List P)}, resPs cx.ty s l = some pss → ∃ vs : List Value, vs.length = l.length ∧ pss.length = l.length ∧ (∀ (i : Nat) x v, l[i]? = some x → vs[i]? = some v → (resOne a.tmps x).run Pg c.w = .ok v c.w) ∧ ∀ (i : Nat) q v, pss[i]? = some q → vs[i]? = some v → ResV c q v
 | [], pss, h => by
  simp only [resPs, Option.some.injEq] at h
  subst h
  exact ⟨[], rfl, rfl, fun i x v hx => by simp at hx, fun i q v hq => by simp at hq⟩
 | .tmp t :: l, pss, h => by
  simp only [resPs] at h
  split at h
  ·rename_i m hm
   obtain rfl := Option.some.inj h
   obtain ⟨vs, h1, h2, h3, h4⟩ := resPs_run ok hat hm
   refine ⟨a.tmps.getD t undef :: vs, by simp [h1], by simp [h2], fun i x v hx hv => ?_, fun i q v hq hv => ?_⟩
   ·cases i with
    | zero =>
     simp only [List.getElem?_cons_zero, Option.some.injEq] at hx hv
     subst hx
     subst hv
     rfl
    | succ i => exact h3 i x v (by simpa using hx) (by simpa using hv)
   ·cases i with
    | zero =>
     simp only [List.getElem?_cons_zero, Option.some.injEq] at hq hv
     subst hq
     subst hv
     have hp := hat.tm t
     unfold ResV
     simp only
     cases hs : s.tm t with
     | agg l => rw [hs] at hp; exact hp
     | _ => rw [hs] at hp; exact ⟨_, rfl, hp⟩
    | succ i => exact h4 i q v (by simpa using hq) (by simpa using hv)
  ·cases h
 | .cell x t :: l, pss, h => by
  simp only [resPs] at h
  have hp := hat.tm x
  have fin : ∀ {q : Bool × List P} {v : Value} {m : List (Bool × List P)}, (resOne a.tmps (.cell x t)).run Pg c.w = .ok v c.w → ResV c q v → resPs cx.ty s l = some m → ∃ vs : List Value, vs.length = (ResultVar.cell x t :: l).length ∧ (q :: m).length = (ResultVar.cell x t :: l).length ∧ (∀ (i : Nat) y v, (ResultVar.cell x t :: l)[i]? = some y → vs[i]? = some v → (resOne a.tmps y).run Pg c.w = .ok v c.w) ∧ ∀ (i : Nat) p v, (q :: m)[i]? = some p → vs[i]? = some v → ResV c p v := by
   intro q v m hr hq hm
   obtain ⟨vs, h1, h2, h3, h4⟩ := resPs_run ok hat hm
   refine ⟨v :: vs, by simp [h1], by simp [h2], fun i y u hy hu => ?_, fun i p u hp hu => ?_⟩
   ·cases i with
    | zero =>
     simp only [List.getElem?_cons_zero, Option.some.injEq] at hy hu
     subst hy
     subst hu
     exact hr
    | succ i => exact h3 i y u (by simpa using hy) (by simpa using hu)
   ·cases i with
    | zero =>
     simp only [List.getElem?_cons_zero, Option.some.injEq] at hp hu
     subst hp
     subst hu
     exact hq
    | succ i => exact h4 i p u (by simpa using hp) (by simpa using hu)
  have load : ∀ {v : Value}, (Instr.loadAt t (a.tmps.getD x undef)).run Pg c.w = .ok v c.w → (resOne a.tmps (.cell x t)).run Pg c.w = .ok v c.w := by
   intro v hv
   unfold Instr.loadAt at hv
   show (do loadVar t (← asAddr (a.tmps.getD x undef)) : Sem Value).run Pg c.w = _
   cases hu : a.tmps.getD x undef with
   | pointer ad =>
    rw [hu] at hv
    cases ad with
    | some ad => exact hv
    | none => cases hv
   | _ => rw [hu] at hv; cases hv
  split at h
  ·rename_i sh eb ht
   split at h
   ·rename_i p hrd
    split at h
    ·rename_i m hm
     obtain rfl := Option.some.inj h
     have hp1 : c.P1 (s.tm x) (a.tmps.getD x undef) := by
      refine P1_of hp (fun l e => ?_) (fun l e => ?_) <;> (rw [e] at hrd; simp [rdAt] at hrd)
     rw [← hat.rt] at hrd
     obtain ⟨v, e1, e2⟩ := load_cell ok hat.inv ht hrd hp1
     exact fin (load e1) ⟨p, rfl, PRep.of1 e2⟩ hm
    ·cases h
   ·cases h
  ·rename_i offs cs ht
   split at h
   ·rename_i ps hrd
    split at h
    ·rename_i m hm
     obtain rfl := Option.some.inj h
     obtain ⟨_, _, _, _, _, hne, _⟩ := ty_strct ok ht
     have hp1 : c.P1 (s.tm x) (a.tmps.getD x undef) := by
      refine P1_of hp (fun l e => ?_) (fun l e => ?_) <;> (
       rw [e] at hrd
       cases hcl : cs.length with
       | zero => exact hne hcl
       | succ n => rw [hcl] at hrd; simp [rdCells, moveOn] at hrd)
     rw [← hat.rt] at hrd
     obtain ⟨v, e1, e2⟩ := load_strct ok hat.inv ht hrd hp1
     exact fin (load e1) e2 hm
    ·cases h
   ·cases h
  ·cases h
theorem packV_eq (vs : Array Value) : (if h : vs.size = 1 then vs[0] else .tuple vs) = packV vs.toList := by
 obtain ⟨l⟩ := vs
 match l with
 | [] => rfl
 | [v] => rfl
 | a :: b :: l => rfl
theorem results_run (ok : ∀ t, tyOk Pg t (cx.ty t) = true) {nt : Nat} {c : Cf} {s : St} {a : Act} (hat : At nt c s a) {fn : Func} {pss : List (Bool × List P)} (h : resPs cx.ty s fn.results.toList = some pss) :
  ∃ vs : List Value, (results fn a.tmps).run Pg c.w = .ok (packV vs) c.w ∧ pss.length = vs.length ∧ ∀ (i : Nat) q v, pss[i]? = some q → vs[i]? = some v → ResV c q v := by
 obtain ⟨vs, h1, h2, h3, h4⟩ := resPs_run ok hat h
 let r : ResultVar → Value := fun x => match (resOne a.tmps x).run Pg c.w with
  | .ok v _ => v
  | _ => undef
 have hr : ∀ x ∈ fn.results.toList, (resOne a.tmps x).run Pg c.w = .ok (r x) c.w := fun x hx => by
  obtain ⟨i, hi⟩ := List.getElem?_of_mem hx
  have hlt := (List.getElem?_eq_some_iff.1 hi).1
  have := h3 i x vs[i] hi (by simp [h1, hlt])
  simp only [r, this]
 have hmap : fn.results.toList.map r = vs := by
  apply List.ext_getElem?
  intro i
  rw [List.getElem?_map]
  cases hi : fn.results.toList[i]? with
  | none =>
   rw [List.getElem?_eq_none_iff] at hi
   simp only [Option.map_none]
   exact (List.getElem?_eq_none (by omega)).symm
  | some x =>
   have hlt := (List.getElem?_eq_some_iff.1 hi).1
   have hv : vs[i]? = some vs[i] := by simp [h1, hlt]
   have := h3 i x _ hi hv
   rw [hv]
   simp only [Option.map_some, r, this]
 refine ⟨vs, ?_, by omega, h4⟩
 rw [results_eq, run_bind, mapA_run hr]
 simp only
 rw [packV_eq, Array.toList_map, hmap]
 rfl
theorem outCells_to : ∀ {l : List (S × Nat)} {ps : List P} {i : Nat} {c : Cf} {cs : List CV} {rt' : Rt} {us : List Value}, outCells c.rt l ps = some (cs, rt') → c.Inv → (∀ b k, 2 * i ≤ k → c.O b ≠ some (.det k)) → us.length = ps.length → (∀ (n : Nat) p u, ps[n]? = some p → us[n]? = some u → c.P1 p u) →
  ∃ O' Z', To c ⟨rt', c.w, c.γ, O', Z'⟩ ∧ ResC c.w Z' O' l i cs us ∧ (∀ b k, k < 2 * i → (O' b = some (.det k) ↔ c.O b = some (.det k))) ∧ (∀ b k, 2 * (i + l.length) ≤ k → O' b ≠ some (.det k)) ∧ ∀ b k, i ≤ k → O' b ≠ some (.det (2 * k + 1))
 | [], [], i, c, cs, rt', us, h, hc, hd, hl, hP => by
  simp only [outCells, Option.some.injEq, Prod.mk.injEq] at h
  obtain ⟨rfl, rfl⟩ := h
  cases us with
  | nil => exact ⟨c.O, c.Z, To.refl hc, trivial, fun _ _ _ => Iff.rfl, fun b k hk => hd b k (by simpa using hk), fun b k hk => hd b _ (by omega)⟩
  | cons _ _ => cases hl
 | [], _ :: _, _, _, _, _, _, h, _, _, _, _ => by cases h
 | _ :: _, [], _, _, _, _, _, h, _, _, _, _ => by cases h
 | (s, d) :: l, p :: ps, i, c, cs, rt', [], h, hc, hd, hl, hP => by cases hl
 | (s, d) :: l, p :: ps, i, c, cs, rt', u :: us, h, hc, hd, hl, hP => by
  simp only [outCells] at h
  split at h
  ·rename_i cv m rt1 htk
   obtain ⟨hm, h⟩ := cond_s h
   have hm : d ≤ m := by simpa using hm
   split at h
   ·rename_i cs2 r h2
    simp only [Option.some.injEq, Prod.mk.injEq] at h
    obtain ⟨rfl, rfl⟩ := h
    obtain ⟨O1, Z1, t1, p1, d1⟩ := takeCells_to (k := 2 * i) (vs := [u]) hc htk (fun b k hk => hd b k hk) rfl (fun n q w hq hw => by
     cases n with
     | zero =>
      simp only [List.getElem?_cons_zero, Option.some.injEq] at hq hw
      subst hq
      subst hw
      exact hP 0 _ _ rfl rfl
     | succ n => simp at hq) hm
    obtain ⟨p1, _⟩ := p1
    have hs : cv.s = s := by
     cases s with
     | row ss =>
      simp only [takeCells] at htk
      split at htk
      ·simp only [Option.some.injEq, Prod.mk.injEq, List.cons.injEq, and_true] at htk
       rw [← htk.1]
      ·cases htk
     | _ =>
      simp only [takeCells] at htk
      split at htk
      ·split at htk
       ·simp only [Option.some.injEq, Prod.mk.injEq, List.cons.injEq, and_true] at htk
        rw [← htk.1]
       ·cases htk
      ·cases htk
    obtain ⟨O2, Z2, t2, r2, a2, b2, c2⟩ := outCells_to (i := i + 1) (c := ⟨rt1, c.w, c.γ, O1, Z1⟩) (us := us) h2 t1.inv (fun b k hk hb => hd b k (by omega) ((d1 b k (.inr (by simp only [List.length_cons, List.length_nil]; omega))).1 hb)) (by simpa using hl) fun n q w hq hw => t1.stb _ _ (hP (n + 1) q w (by simpa using hq) (by simpa using hw))
    refine ⟨O2, Z2, t1.trans t2, ⟨hs, ?_, r2⟩, fun b k hk => (a2 b k (by omega)).trans (d1 b k (.inl hk)), fun b k hk => b2 b k (by simp only [List.length_cons] at hk; omega), fun b k hk hb => ?_⟩
    ·have e : (fun b => O2 b = some (.det (2 * i))) = (fun b => O1 b = some (.det (2 * i))) := by funext b; exact propext (a2 b _ (by omega))
     rw [e]
     exact p1.mono t2.ext.z
    ·rcases Nat.eq_or_lt_of_le hk with rfl | hlt
     ·exact hd b _ (by omega) ((d1 b _ (.inr (by simp only [List.length_cons, List.length_nil]; omega))).1 ((a2 b _ (by omega)).1 hb))
     ·exact c2 b k hlt hb
   ·cases h
  ·cases h
theorem outAll_to : ∀ {rs : List (RK × List (S × Nat))} {pss : List (Bool × List P)} {i : Nat} {c : Cf} {cs : List CV} {rt' : Rt} {vs : List Value}, outAll c.rt rs pss = some (cs, rt') → c.Inv → (∀ b k, 2 * i ≤ k → c.O b ≠ some (.det k)) → pss.length = vs.length → (∀ (n : Nat) q v, pss[n]? = some q → vs[n]? = some v → ResV c q v) →
  ∃ O' Z', To c ⟨rt', c.w, c.γ, O', Z'⟩ ∧ ResR c.w Z' O' rs i cs vs ∧ (∀ b k, k < 2 * i → (O' b = some (.det k) ↔ c.O b = some (.det k))) ∧ ∀ b k, 2 * (i + (rs.flatMap (·.2)).length) ≤ k → O' b ≠ some (.det k)
 | [], [], i, c, cs, rt', vs, h, hc, hd, hl, hP => by
  simp only [outAll, Option.some.injEq, Prod.mk.injEq] at h
  obtain ⟨rfl, rfl⟩ := h
  cases vs with
  | nil => exact ⟨c.O, c.Z, To.refl hc, trivial, fun _ _ _ => Iff.rfl, fun b k hk => hd b k (by simpa using hk)⟩
  | cons _ _ => cases hl
 | [], _ :: _, _, _, _, _, _, h, _, _, _, _ => by cases h
 | _ :: _, [], _, _, _, _, _, h, _, _, _, _ => by cases h
 | (k, l) :: rs, (g, ps) :: pss, i, c, cs, rt', [], h, hc, hd, hl, hP => by cases hl
 | (k, l) :: rs, (g, ps) :: pss, i, c, cs, rt', v :: vs, h, hc, hd, hl, hP => by
  simp only [outAll] at h
  obtain ⟨hk, h⟩ := cond_n h
  simp only [Bool.or_eq_false_iff] at hk
  split at h
  ·rename_i cs1 rt1 h1
   split at h
   ·rename_i ds r h2
    simp only [Option.some.injEq, Prod.mk.injEq] at h
    obtain ⟨rfl, rfl⟩ := h
    have hv := hP 0 (g, ps) v rfl rfl
    have key : ∃ us : List Value, us.length = ps.length ∧ (∀ (n : Nat) p u, ps[n]? = some p → us[n]? = some u → c.P1 p u) ∧ (match k with | .agg => v = .agg us.toArray | .one => us = [v] | .ptr => False) := by
     cases k with
     | ptr => exact absurd hk.1 (by simp [RK.isPtr])
     | agg =>
      have hg : g = true := by cases g <;> simp [RK.isAgg] at hk ⊢
      subst hg
      obtain ⟨ws, e1, e2, e3⟩ := hv
      exact ⟨ws.toList, by simpa using e2, fun n p u hp hu => e3 n p u hp (by simpa using hu), by simpa using e1⟩
     | one =>
      have hg : g = false := by cases g <;> simp [RK.isAgg] at hk ⊢
      subst hg
      obtain ⟨p, hp, hpr⟩ := hv
      simp only at hp
      subst hp
      refine ⟨[v], rfl, fun n q u hq hu => ?_, rfl⟩
      cases n with
      | zero =>
       simp only [List.getElem?_cons_zero, Option.some.injEq] at hq hu
       subst hq
       subst hu
       cases l with
       | nil => simp [outCells] at h1
       | cons sd l =>
        obtain ⟨s, d⟩ := sd
        simp only [outCells] at h1
        split at h1
        ·rename_i htk
         exact src_P1 hpr ((takeCells_src htk).2 _ (by simp))
        ·cases h1
      | succ n => simp at hq
    obtain ⟨us, k1, k2, k3⟩ := key
    obtain ⟨O1, Z1, t1, r1, a1, b1, c1⟩ := outCells_to (i := i) h1 hc hd k1 k2
    obtain ⟨O2, Z2, t2, r2, a2, b2⟩ := outAll_to (i := i + l.length) (c := ⟨rt1, c.w, c.γ, O1, Z1⟩) (vs := vs) h2 t1.inv (fun b k hk => b1 b k (by omega)) (by simpa using hl) fun n q w hq hw => by
     have := hP (n + 1) q w (by simpa using hq) (by simpa using hw)
     unfold ResV at this ⊢
     cases hq1 : q.1 with
     | true => rw [hq1] at this; exact PR_stab t1.stb this
     | false => rw [hq1] at this; obtain ⟨p, e1, e2⟩ := this; exact ⟨p, e1, PR_stab t1.stb e2⟩
    refine ⟨O2, Z2, t1.trans t2, ⟨cs1, ds, us, rfl, ResC.map (fun k hk1 hk2 b => a2 b _ (by omega)) (fun s d _ x u G hr => hr.mono t2.ext.z) r1, fun b k' hk1 hk2 hb => ?_, ?_, r2⟩, fun b k hk => (a2 b k (by omega)).trans (a1 b k hk), fun b k hk => b2 b k (by simp only [List.flatMap_cons, List.length_append] at hk; omega)⟩
    ·exact absurd ((a2 b _ (by omega)).1 hb) (c1 b k' hk1)
    ·cases k with
     | one => exact k3
     | agg => exact k3
     | ptr => exact k3.elim
   ·cases h
  ·cases h
end Go.PV

namespace Go.PV
variable {Pg : Program} {cx : Cx}
theorem ents_cell : ∀ {pars : List Par} {m : Nat} {pc : PC}, (ents pars)[m]? = some (.cell pc) → ∃ i n j, (ents pars)[i]? = some (.box n) ∧ m = i + 1 + j ∧ j < n
 | [], m, pc, h => by simp [ents] at h
 | .val a l :: ps, m, pc, h => by
  simp only [ents] at h
  rcases split_at h with h1 | ⟨q, rfl, h1⟩
  ·rw [List.getElem?_map, Option.map_eq_some_iff] at h1
   obtain ⟨_, _, e⟩ := h1; cases e
  ·obtain ⟨i, n, j, g1, g2, g3⟩ := ents_cell h1
   refine ⟨(l.map Ent.val).length + i, n, j, ?_, by omega, g3⟩
   simp only [ents]; rw [some_right]; exact g1
 | .ptr l :: ps, m, pc, h => by
  simp only [ents] at h
  cases m with
  | zero => simp at h
  | succ m =>
   simp only [List.getElem?_cons_succ] at h
   rcases split_at h with h1 | ⟨q, rfl, h1⟩
   ·exact ⟨0, l.length, m, rfl, by omega, by have := (List.getElem?_eq_some_iff.1 h1).1; simpa using this⟩
   ·obtain ⟨i, n, j, g1, g2, g3⟩ := ents_cell h1
    refine ⟨(l.map Ent.cell).length + i + 1, n, j, ?_, by omega, g3⟩
    simp only [ents, List.getElem?_cons_succ]; rw [some_right]; exact g1
theorem ents_box : ∀ {pars : List Par} {i n : Nat}, (ents pars)[i]? = some (.box n) → ∀ j, j < n → ∃ pc, (ents pars)[i + 1 + j]? = some (.cell pc)
 | [], i, n, h, j, _ => by simp [ents] at h
 | .val a l :: ps, i, n, h, j, hj => by
  simp only [ents] at h
  rcases split_at h with h1 | ⟨q, rfl, h1⟩
  ·rw [List.getElem?_map, Option.map_eq_some_iff] at h1
   obtain ⟨_, _, e⟩ := h1; cases e
  ·obtain ⟨pc, g⟩ := ents_box h1 j hj
   refine ⟨pc, ?_⟩
   simp only [ents]
   rw [show (l.map Ent.val).length + q + 1 + j = (l.map Ent.val).length + (q + 1 + j) by omega, some_right]; exact g
 | .ptr l :: ps, i, n, h, j, hj => by
  simp only [ents] at h
  cases i with
  | zero =>
   simp only [List.getElem?_cons_zero, Option.some.injEq, Ent.box.injEq] at h
   subst h
   refine ⟨l[j], ?_⟩
   simp only [ents]
   rw [show 0 + 1 + j = j + 1 by omega, List.getElem?_cons_succ, List.getElem?_append_left (by simpa using hj), List.getElem?_map]
   simp [hj]
  | succ i =>
   simp only [List.getElem?_cons_succ] at h
   rcases split_at h with h1 | ⟨q, rfl, h1⟩
   ·rw [List.getElem?_map, Option.map_eq_some_iff] at h1
    obtain ⟨_, _, e⟩ := h1; cases e
   ·obtain ⟨pc, g⟩ := ents_box h1 j hj
    refine ⟨pc, ?_⟩
    simp only [ents]
    rw [show (l.map Ent.cell).length + q + 1 + 1 + j = (l.map Ent.cell).length + (q + 1 + j) + 1 by omega, List.getElem?_cons_succ, some_right]; exact g
theorem fill_append : ∀ {es es2 : List Ent} {a b : List CV} {y y2 : List (Option CV)}, fill es a = some y → fill es2 b = some y2 → fill (es ++ es2) (a ++ b) = some (y ++ y2)
 | [], es2, [], b, y, y2, h, h2 => by
  simp only [fill, Option.some.injEq] at h
  subst h
  exact h2
 | [], _, _ :: _, _, _, _, h, _ => by cases h
 | e :: es, es2, a, b, y, y2, h, h2 => by
  simp only [fill] at h
  simp only [List.cons_append, fill]
  cases hb : e.back with
  | true =>
   rw [hb] at h
   simp only [cond_true] at h ⊢
   split at h
   ·split at h
    ·rename_i l hl
     obtain rfl := Option.some.inj h
     simp only [List.cons_append, fill_append hl h2]
    ·cases h
   ·cases h
  | false =>
   rw [hb] at h
   simp only [cond_false] at h ⊢
   split at h
   ·rename_i l hl
    obtain rfl := Option.some.inj h
    simp only [List.cons_append, fill_append hl h2]
   ·cases h
theorem backVal_spec {rt : Rt} : ∀ {l : List PC} {k : Nat} {bs : List CV}, backVal rt k l = some bs → ∃ ys, fill (l.map .val) bs = some ys ∧ ∀ (i : Nat) pc, l[i]? = some pc → Ent.back (.val pc) = true → ∃ r x d yv, ys[i]? = some (some yv) ∧ rt (parId (k + i)) = some r ∧ r.virt = true ∧ r.cells[0]? = some x ∧ x.c = .mk d yv ∧ pc.d2 ≤ d ∧ x.hv = 0 ∧ pc.s.isRow = true ∧ yv.s = pc.s
 | [], k, bs, h => by
  simp only [backVal, Option.some.injEq] at h
  subst h
  exact ⟨[], rfl, fun i pc hp => by simp at hp⟩
 | pc :: l, k, bs, h => by
  simp only [backVal] at h
  cases hb : (pc.kept && !(Nat.beq pc.d 0)) with
  | true =>
   rw [hb] at h
   simp only [cond_true] at h
   split at h
   ·rename_i x hx
    split at h
    ·rename_i d c hxc
     obtain ⟨hc, h⟩ := cond_s h
     simp only [Bool.and_eq_true, Nat.ble_eq, Nat.beq_eq] at hc
     split at h
     ·rename_i y m hy hm
      obtain rfl := Option.some.inj h
      obtain ⟨ys, h1, h2⟩ := backVal_spec hm
      have hcy := CV.as_some hy
      subst hcy
      obtain ⟨r, hr, hx0⟩ := cellAt_some hx
      have hv : r.virt = true := by have := hc.1.2; unfold isVirt at this; rw [hr] at this; exact this
      refine ⟨some ⟨pc.s, y⟩ :: ys, ?_, fun i pc' hp hb' => ?_⟩
      ·have hb2 : Ent.back (.val pc) = true := hb
       simp only [List.map_cons, fill, hb2, cond_true, h1]
      ·cases i with
       | zero =>
        simp only [List.getElem?_cons_zero, Option.some.injEq] at hp
        subst hp
        exact ⟨r, x, d, _, rfl, hr, hv, hx0, hxc, hc.1.1.1, hc.1.1.2, hc.2, rfl⟩
       | succ i =>
        obtain ⟨r, x, d, yv, g1, g2, g3⟩ := h2 i pc' (by simpa using hp) hb'
        exact ⟨r, x, d, yv, by simpa using g1, by rw [show k + (i + 1) = k + 1 + i by omega]; exact g2, g3⟩
     ·cases h
    ·cases h
   ·cases h
  | false =>
   rw [hb] at h
   simp only [cond_false] at h
   obtain ⟨ys, h1, h2⟩ := backVal_spec h
   refine ⟨none :: ys, ?_, fun i pc' hp hb' => ?_⟩
   ·have hb2 : Ent.back (.val pc) = false := hb
    simp only [List.map_cons, fill, hb2, cond_false, h1]
   ·cases i with
    | zero =>
     simp only [List.getElem?_cons_zero, Option.some.injEq] at hp
     subst hp
     rw [show Ent.back (.val pc) = false from hb] at hb'
     cases hb'
    | succ i =>
     obtain ⟨r, x, d, yv, g1, g2, g3⟩ := h2 i pc' (by simpa using hp) hb'
     exact ⟨r, x, d, yv, by simpa using g1, by rw [show k + (i + 1) = k + 1 + i by omega]; exact g2, g3⟩
theorem backPtr_spec {rt : Rt} {k : Nat} {r : Root} (hr : rt (parId k) = some r) : ∀ {l : List PC} {j : Nat} {bs : List CV}, backPtr rt k l j = some bs → ∃ ys, fill (l.map .cell) bs = some ys ∧ ∀ (i : Nat) pc, l[i]? = some pc → pc.kept = true → ∃ x d yv, ys[i]? = some (some yv) ∧ r.cells[j + i]? = some x ∧ x.c = .mk d yv ∧ (pc.d2 ≤ d ∨ pc.s.isRow = false) ∧ yv.s = pc.s
 | [], j, bs, h => by
  simp only [backPtr, Option.some.injEq] at h
  subst h
  exact ⟨[], rfl, fun i pc hp => by simp at hp⟩
 | pc :: l, j, bs, h => by
  simp only [backPtr] at h
  cases hb : pc.kept with
  | true =>
   rw [hb] at h
   simp only [Bool.not_true, cond_false] at h
   split at h
   ·rename_i x hx
    split at h
    ·rename_i d c hxc
     obtain ⟨hc, h⟩ := cond_s h
     simp only [Bool.or_eq_true, Nat.ble_eq, Bool.not_eq_true'] at hc
     split at h
     ·rename_i y m hy hm
      obtain rfl := Option.some.inj h
      obtain ⟨ys, h1, h2⟩ := backPtr_spec hr hm
      have hcy := CV.as_some hy
      subst hcy
      obtain ⟨r', hr', hx0⟩ := cellAt_some hx
      rw [hr] at hr'
      obtain rfl := Option.some.inj hr'
      refine ⟨some ⟨pc.s, y⟩ :: ys, ?_, fun i pc' hp hb' => ?_⟩
      ·have hb2 : Ent.back (.cell pc) = true := hb
       simp only [List.map_cons, fill, hb2, cond_true, h1]
      ·cases i with
       | zero =>
        simp only [List.getElem?_cons_zero, Option.some.injEq] at hp
        subst hp
        exact ⟨x, d, _, rfl, hx0, hxc, hc, rfl⟩
       | succ i =>
        obtain ⟨x, d, yv, g1, g2, g3⟩ := h2 i pc' (by simpa using hp) hb'
        exact ⟨x, d, yv, by simpa using g1, by rw [show j + (i + 1) = j + 1 + i by omega]; exact g2, g3⟩
     ·cases h
    ·cases h
   ·cases h
  | false =>
   rw [hb] at h
   simp only [Bool.not_false, cond_true] at h
   obtain ⟨ys, h1, h2⟩ := backPtr_spec hr h
   refine ⟨none :: ys, ?_, fun i pc' hp hb' => ?_⟩
   ·have hb2 : Ent.back (.cell pc) = false := hb
    simp only [List.map_cons, fill, hb2, cond_false, h1]
   ·cases i with
    | zero =>
     simp only [List.getElem?_cons_zero, Option.some.injEq] at hp
     subst hp
     rw [hb] at hb'
     cases hb'
    | succ i =>
     obtain ⟨x, d, yv, g1, g2, g3⟩ := h2 i pc' (by simpa using hp) hb'
     exact ⟨x, d, yv, by simpa using g1, by rw [show j + (i + 1) = j + 1 + i by omega]; exact g2, g3⟩
structure BackF (rt : Rt) (pars : List Par) (k : Nat) (ys : List (Option CV)) : Prop where
 v : ∀ (i : Nat) pc, (ents pars)[i]? = some (.val pc) → Ent.back (.val pc) = true → ∃ r x d yv, ys[i]? = some (some yv) ∧ rt (parId (k + i)) = some r ∧ r.virt = true ∧ r.cells[0]? = some x ∧ x.c = .mk d yv ∧ pc.d2 ≤ d ∧ x.hv = 0 ∧ pc.s.isRow = true ∧ yv.s = pc.s
 b : ∀ (i : Nat) n, (ents pars)[i]? = some (.box n) → ∃ r, rt (parId (k + i)) = some r ∧ r.cells.length = n ∧ ∀ (j : Nat) pc, j < n → (ents pars)[i + 1 + j]? = some (.cell pc) → pc.kept = true →
  ∃ x d yv, ys[i + 1 + j]? = some (some yv) ∧ r.cells[j]? = some x ∧ x.c = .mk d yv ∧ (pc.d2 ≤ d ∨ pc.s.isRow = false) ∧ yv.s = pc.s
theorem backs_spec {rt : Rt} : ∀ {pars : List Par} {k : Nat} {bs : List CV}, backs rt k pars = some bs → ∃ ys, fill (ents pars) bs = some ys ∧ BackF rt pars k ys
 | [], k, bs, h => by
  simp only [backs, Option.some.injEq] at h
  subst h
  exact ⟨[], rfl, fun i pc hp => by simp [ents] at hp, fun i n hp => by simp [ents] at hp⟩
 | .val a l :: ps, k, bs, h => by
  simp only [backs] at h
  split at h
  ·rename_i x y hx hy
   obtain rfl := Option.some.inj h
   obtain ⟨y1, f1, f2⟩ := backVal_spec hx
   obtain ⟨y2, g1, g2⟩ := backs_spec hy
   have hl := (fill_at f1).1
   rw [List.length_map] at hl
   refine ⟨y1 ++ y2, fill_append f1 g1, fun i pc hp hb => ?_, fun i n hp => ?_⟩
   ·simp only [ents] at hp
    rcases split_at hp with hp1 | ⟨m, rfl, hp1⟩
    ·rw [List.getElem?_map, Option.map_eq_some_iff] at hp1
     obtain ⟨pc', q1, q2⟩ := hp1
     cases q2
     obtain ⟨r, x, d, yv, e1, e2⟩ := f2 i pc q1 hb
     exact ⟨r, x, d, yv, some_left e1, e2⟩
    ·obtain ⟨r, x, d, yv, e1, e2, e3⟩ := g2.v m pc hp1 hb
     rw [List.length_map]
     exact ⟨r, x, d, yv, by rw [← hl, some_right]; exact e1, by rw [show k + (l.length + m) = k + l.length + m by omega]; exact e2, e3⟩
   ·simp only [ents] at hp
    rcases split_at hp with hp1 | ⟨m, rfl, hp1⟩
    ·rw [List.getElem?_map, Option.map_eq_some_iff] at hp1
     obtain ⟨pc', q1, q2⟩ := hp1
     cases q2
    ·obtain ⟨r, e1, e2, e3⟩ := g2.b m n hp1
     rw [List.length_map]
     refine ⟨r, by rw [show k + (l.length + m) = k + l.length + m by omega]; exact e1, e2, fun j pc hj hc hk => ?_⟩
     have hc' : (ents ps)[m + 1 + j]? = some (.cell pc) := by
      simp only [ents] at hc
      have := some_right (a := l.map Ent.val) (b := ents ps) (k := m + 1 + j)
      rw [List.length_map, show l.length + (m + 1 + j) = l.length + m + 1 + j by omega] at this
      rw [← this]; exact hc
     obtain ⟨x, d, yv, q1, q2⟩ := e3 j pc hj hc' hk
     exact ⟨x, d, yv, by rw [show l.length + m + 1 + j = y1.length + (m + 1 + j) by omega, some_right]; exact q1, q2⟩
  ·cases h
 | .ptr l :: ps, k, bs, h => by
  simp only [backs] at h
  split at h
  ·rename_i r hr
   obtain ⟨hlen, h⟩ := cond_s h
   have hlen := Nat.eq_of_beq_eq_true hlen
   split at h
   ·rename_i x y hx hy
    obtain rfl := Option.some.inj h
    obtain ⟨y1, f1, f2⟩ := backPtr_spec hr hx
    obtain ⟨y2, g1, g2⟩ := backs_spec hy
    have hl := (fill_at f1).1
    rw [List.length_map] at hl
    have f3 : fill (ents (.ptr l :: ps)) (x ++ y) = some (none :: (y1 ++ y2)) := by
     simp only [ents, fill, Ent.back, cond_false, fill_append f1 g1]
    refine ⟨none :: (y1 ++ y2), f3, fun i pc hp hb => ?_, fun i n hp => ?_⟩
    ·simp only [ents] at hp
     cases i with
     | zero => simp at hp
     | succ i =>
      simp only [List.getElem?_cons_succ] at hp
      rcases split_at hp with hp1 | ⟨m, rfl, hp1⟩
      ·rw [List.getElem?_map, Option.map_eq_some_iff] at hp1
       obtain ⟨pc', q1, q2⟩ := hp1
       cases q2
      ·obtain ⟨r, x, d, yv, e1, e2, e3⟩ := g2.v m pc hp1 hb
       rw [List.length_map]
       exact ⟨r, x, d, yv, by rw [List.getElem?_cons_succ, ← hl, some_right]; exact e1, by rw [show k + (l.length + m + 1) = k + 1 + l.length + m by omega]; exact e2, e3⟩
    ·simp only [ents] at hp
     cases i with
     | zero =>
      simp only [List.getElem?_cons_zero, Option.some.injEq, Ent.box.injEq] at hp
      subst hp
      refine ⟨r, hr, hlen, fun j pc hj hc hk => ?_⟩
      simp only [ents] at hc
      rw [show 0 + 1 + j = j + 1 by omega, List.getElem?_cons_succ, List.getElem?_append_left (by simpa using hj), List.getElem?_map, Option.map_eq_some_iff] at hc
      obtain ⟨pc', q1, q2⟩ := hc
      cases q2
      obtain ⟨x, d, yv, e1, e2⟩ := f2 j pc q1 hk
      rw [Nat.zero_add] at e2
      exact ⟨x, d, yv, by rw [show 0 + 1 + j = j + 1 by omega, List.getElem?_cons_succ]; exact some_left e1, e2⟩
     | succ i =>
      simp only [List.getElem?_cons_succ] at hp
      rcases split_at hp with hp1 | ⟨m, rfl, hp1⟩
      ·rw [List.getElem?_map, Option.map_eq_some_iff] at hp1
       obtain ⟨pc', q1, q2⟩ := hp1
       cases q2
      ·obtain ⟨r, e1, e2, e3⟩ := g2.b m n hp1
       rw [List.length_map]
       refine ⟨r, by rw [show k + (l.length + m + 1) = k + 1 + l.length + m by omega]; exact e1, e2, fun j pc hj hc hk => ?_⟩
       have hc' : (ents ps)[m + 1 + j]? = some (.cell pc) := by
        simp only [ents] at hc
        rw [show l.length + m + 1 + 1 + j = l.length + (m + 1 + j) + 1 by omega, List.getElem?_cons_succ] at hc
        have := some_right (a := l.map Ent.cell) (b := ents ps) (k := m + 1 + j)
        rw [List.length_map] at this
        rw [← this]; exact hc
       obtain ⟨x, d, yv, q1, q2⟩ := e3 j pc hj hc' hk
       exact ⟨x, d, yv, by rw [show l.length + m + 1 + 1 + j = y1.length + (m + 1 + j) + 1 by omega, List.getElem?_cons_succ, some_right]; exact q1, q2⟩
   ·cases h
  ·cases h
theorem flat_new {w w' : World} : ∀ {pars : List Par} {vs us : List Value}, Flat w pars vs us → (∀ (i : Nat) n u, (ents pars)[i]? = some (.box n) → us[i]? = some u → ∃ b ca E fz, u = .pointer (some ⟨b, 0, none⟩) ∧ w'.heap[b]? = some (.cells ca E fz) ∧ ca.size = n ∧ free fz n) → ∃ us', Flat w' pars vs us'
 | [], [], us, h, _ => ⟨[], rfl⟩
 | [], _ :: _, _, h, _ => h.elim
 | .val _ _ :: _, [], _, h, _ => h.elim
 | .ptr _ :: _, [], _, h, _ => h.elim
 | .val a pcs :: pars, v :: vs, us, h, hb => by
  obtain ⟨us1, us2, rfl, h1, h2, h3⟩ := h
  obtain ⟨us', h4⟩ := flat_new h3 fun i n u q1 q2 => hb (pcs.length + i) n u (by
   simp only [ents]
   have := some_right (a := pcs.map Ent.val) (b := ents pars) (k := i)
   rw [List.length_map] at this
   rw [this]; exact q1) (by rw [← h1, some_right]; exact q2)
  exact ⟨us1 ++ us', us1, us', rfl, h1, h2, h4⟩
 | .ptr pcs :: pars, v :: vs, us, h, hb => by
  obtain ⟨us1, us2, b, E, fz, rfl, h1, rfl, h2, h3, h5⟩ := h
  obtain ⟨us', h4⟩ := flat_new h5 fun i n u q1 q2 => hb (pcs.length + i + 1) n u (by
   simp only [ents, List.getElem?_cons_succ]
   have := some_right (a := pcs.map Ent.cell) (b := ents pars) (k := i)
   rw [List.length_map] at this
   rw [this]; exact q1) (by rw [List.getElem?_cons_succ, ← h1, some_right]; exact q2)
  obtain ⟨b', ca, E', fz', e1, e2, e3, e4⟩ := hb 0 pcs.length _ rfl rfl
  obtain rfl : b = b' := by simpa using e1
  exact ⟨_, ca.toList, us', b, E', fz', rfl, by simpa using e3, rfl, by simpa using e2, by rw [show ca.toList.length = pcs.length by simpa using e3]; exact e4, h4⟩
end Go.PV

namespace Go.PV
variable {Pg : Program} {cx : Cx}
def target (es : List Ent) (i : Nat) : Option (Nat × List Nat) := match es[i]? with
 | some (.val pc) => bif Ent.back (.val pc) then some (parId i, [pc.d2]) else none
 | some (.box n) => some (parId i, (List.range n).map fun j => match es[i + 1 + j]? with | some (.cell pc) => pc.d2 | _ => 0)
 | _ => none
theorem target_id {es : List Ent} {i : Nat} {q : Nat × List Nat} (h : target es i = some q) : q.1 = parId i := by
 unfold target at h
 split at h
 ·obtain ⟨_, h⟩ := cond_s h
  rw [← Option.some.inj h]
 ·rw [← Option.some.inj h]
 ·cases h
theorem target_nodup {es : List Ent} : ∀ {l : List Nat}, l.Nodup → ((l.filterMap (target es)).map (·.1)).Nodup
 | [], _ => List.nodup_nil
 | i :: l, h => by
  obtain ⟨h1, h2⟩ := List.nodup_cons.1 h
  rw [List.filterMap_cons]
  split
  ·exact target_nodup h2
  ·rename_i q hq
   rw [List.map_cons]
   refine List.nodup_cons.2 ⟨fun hm => ?_, target_nodup h2⟩
   obtain ⟨q', m1, m2⟩ := List.mem_map.1 hm
   obtain ⟨i', m3, m4⟩ := List.mem_filterMap.1 m1
   rw [target_id hq, target_id m4] at m2
   exact h1 (parId_inj m2 ▸ m3)
theorem target_mem {es : List Ent} {i : Nat} {q : Nat × List Nat} (h : target es i = some q) : q ∈ (List.range es.length).filterMap (target es) := by
 refine List.mem_filterMap.2 ⟨i, List.mem_range.2 ?_, h⟩
 rcases Nat.lt_or_ge i es.length with hl | hl
 ·exact hl
 ·unfold target at h
  rw [List.getElem?_eq_none hl] at h
  cases h
theorem target_par {es : List Ent} {q : Nat × List Nat} (h : q ∈ (List.range es.length).filterMap (target es)) : isPar q.1 = true := by
 obtain ⟨i, _, h⟩ := List.mem_filterMap.1 h
 rw [target_id h]
 unfold isPar parId
 rw [Nat.beq_eq]
 omega
theorem weak_len : ∀ (l : List VC) (ds : List Nat), (PV.weaken l ds).length = l.length
 | [], ds => by cases ds <;> rfl
 | _ :: _, [] => rfl
 | x :: l, d :: ds => by simp only [PV.weaken, List.length_cons, weak_len l ds]
theorem weak_at : ∀ (l : List VC) (ds : List Nat) (j : Nat) x, l[j]? = some x → ∃ x', (PV.weaken l ds)[j]? = some x' ∧ x'.hv = x.hv ∧ x'.iv = x.iv ∧ ∀ d0 c, x.c = .mk d0 c → ∃ d', x'.c = .mk d' c ∧ ∀ d, ds[j]? = some d → d' = min d0 d
 | [], ds, j, x, h => by simp at h
 | y :: l, [], j, x, h => ⟨x, h, rfl, rfl, fun d0 c hc => ⟨d0, hc, fun d hd => by simp at hd⟩⟩
 | y :: l, d :: ds, 0, x, h => by
  simp only [List.getElem?_cons_zero, Option.some.injEq] at h
  subst h
  refine ⟨_, rfl, rfl, rfl, fun d0 c hc => ⟨min d0 d, by simp only [hc], fun d' hd => ?_⟩⟩
  simp only [List.getElem?_cons_zero, Option.some.injEq] at hd
  rw [hd]
 | y :: l, d :: ds, j + 1, x, h => by
  simp only [List.getElem?_cons_succ] at h
  obtain ⟨x', h1, h2⟩ := weak_at l ds j x h
  exact ⟨x', by simp only [PV.weaken, List.getElem?_cons_succ]; exact h1, by simpa using h2⟩
structure Fr (w0 : World) (Z : Fp) (F : Nat → Fp) (c : Cf) : Prop where
 size : w0.heap.size ≤ c.w.heap.size
 same : ∀ b, b < w0.heap.size → (∀ i, ¬ F i b) → c.w.heap[b]? = w0.heap[b]? ∧ c.O b = none
 z : ∀ b, Z b → c.Z b
 z' : ∀ b, c.Z b → Z b ∨ (∃ i, F i b) ∨ w0.heap.size ≤ b
 env : SameEnv w0 c.w
theorem Fr.to {w0 : World} {Z : Fp} {F : Nat → Fp} {c c' : Cf} (h : Fr w0 Z F c) (t : Ext c c') : Fr w0 Z F c' where
 env := h.env.trans t.env
 size := Nat.le_trans h.size t.size
 same b hb hn := by
  obtain ⟨h1, h2⟩ := h.same b hb hn
  obtain ⟨k1, k2⟩ := t.same b (Nat.lt_of_lt_of_le hb h.size) h2
  exact ⟨k1.trans h1, k2⟩
 z b hb := t.z b (h.z b hb)
 z' b hb := by
  rcases t.z' b hb with h1 | h1 | h1
  ·exact h.z' b h1
  ·by_cases hl : b < w0.heap.size
   ·by_cases hn : ∃ i, F i b
    ·exact .inr (.inl hn)
    ·exact absurd (h.same b hl fun i hi => hn ⟨i, hi⟩).2 h1
   ·exact .inr (.inr (by omega))
  ·exact .inr (.inr (Nat.le_trans h.size h1))
theorem ParF.to {c c' : Cf} {pars : List Par} {k : Nat} {us : List Value} (h : ParF c pars k us) (t : To c c') : ParF c' pars k us :=
 ⟨fun i pc u h1 h2 h3 h4 => t.stb _ _ (h.v i pc u h1 h2 h3 h4), fun i n u h1 h2 => t.stb _ _ (h.b i n u h1 h2), fun i n j pc u h1 h2 h3 h4 h5 => t.lk _ _ _ (h.lk i n j pc u h1 h2 h3 h4 h5)⟩
structure EndF (c : Cf) (pars : List Par) (us : List Value) (ys : List (Option CV)) : Prop where
 v : ∀ (i : Nat) pc u, (ents pars)[i]? = some (.val pc) → Ent.back (.val pc) = true → us[i]? = some u → ∃ yv, ys[i]? = some (some yv) ∧ yv.s = pc.s ∧ Rep c.w c.Z yv.s pc.d2 yv.x u (fun b => c.O b = some (.cell (parId i) 0))
 b : ∀ (i : Nat) n u, (ents pars)[i]? = some (.box n) → us[i]? = some u → ∃ b ca E fz, u = .pointer (some ⟨b, 0, none⟩) ∧ c.w.heap[b]? = some (.cells ca E fz) ∧ ca.size = n ∧ free fz n ∧ (∀ b', c.O b' = some (.box (parId i)) ↔ b' = b) ∧
  ∀ (j : Nat) pc, j < n → (ents pars)[i + 1 + j]? = some (.cell pc) → (pc.kept = true → ∃ yv u', ys[i + 1 + j]? = some (some yv) ∧ yv.s = pc.s ∧ ca[j]? = some u' ∧ Rep c.w c.Z yv.s pc.d2 yv.x u' (fun b => c.O b = some (.cell (parId i) j))) ∧
   (pc.kept = false → ∀ u', us[i + 1 + j]? = some u' → ca[j]? = some u')
theorem end_facts {c : Cf} (hc : c.Inv) (nd : ND c.O ∨ True) {pars : List Par} {us : List Value} {ys : List (Option CV)} (hp : ParF c pars 0 us) (hb : BackF c.rt pars 0 ys) {T : List (Nat × List Nat)} (hT : (T.map (·.1)).Nodup) (hsub : ∀ q ∈ (List.range (ents pars).length).filterMap (target (ents pars)), q ∈ T)
  {O2 : Own} {Z2 : Fp} (t : To c ⟨weakAll c.rt T, c.w, c.γ, O2, Z2⟩) : EndF ⟨weakAll c.rt T, c.w, c.γ, O2, Z2⟩ pars us ys := by
 have hp2 := hp.to t
 refine ⟨fun i pc u h1 h2 h3 => ?_, fun i n u h1 h2 => ?_⟩
 ·obtain ⟨r, x, d, yv, b1, b2, b3, b4, b5, b6, b7, b8, b9⟩ := hb.v i pc h1 h2
  rw [Nat.zero_add] at b2
  have ht : target (ents pars) i = some (parId i, [pc.d2]) := by unfold target; rw [h1]; simp only [h2, cond_true]
  have hrt := weakAll_at T c.rt (parId i) [pc.d2] r hT (hsub _ (target_mem ht)) b2
  obtain ⟨x', w1, w2, _, w3⟩ := weak_at r.cells [pc.d2] 0 x b4
  obtain ⟨d', w4, w5⟩ := w3 d yv b5
  have hd' := w5 pc.d2 rfl
  rw [Nat.min_eq_right b6] at hd'
  subst hd'
  obtain ⟨rv, m1, m2⟩ := (t.inv.root (parId i) _ hrt).cell 0 x' w1
  rw [w4] at m2
  obtain ⟨r', x'', rv', q1, q2, q3, q4, q5⟩ := hp2.v i pc u h1 h2 b8 h3
  rw [Nat.zero_add] at q1 q3
  have q1 : weakAll c.rt T (parId i) = some r' := q1
  rw [hrt] at q1
  obtain rfl := Option.some.inj q1
  rw [w1] at q2
  obtain rfl := Option.some.inj q2
  rw [m1] at q3
  obtain rfl := Option.some.inj q3
  have hro := q5 (by simp only [VC.ver, w2, b7])
  unfold RefOk at hro
  rw [w4] at hro
  obtain ⟨v0, cs, xs, _, n2, _, _, n5⟩ := hro
  simp only [pv, Option.some.injEq] at n2
  subst n2
  rw [cutV_none] at n5
  subst n5
  exact ⟨yv, b1, b9, m2⟩
 ·obtain ⟨r, b2, b3, b4⟩ := hb.b i n h1
  rw [Nat.zero_add] at b2
  have ht : target (ents pars) i = some (parId i, (List.range n).map fun j => match (ents pars)[i + 1 + j]? with | some (.cell pc) => pc.d2 | _ => 0) := by unfold target; rw [h1]
  have hrt := weakAll_at T c.rt (parId i) _ r hT (hsub _ (target_mem ht)) b2
  obtain ⟨r', q1, q2, b, q3, q4⟩ := hp2.b i n u h1 h2
  rw [Nat.zero_add] at q1 q3
  have q1 : weakAll c.rt T (parId i) = some r' := q1
  rw [hrt] at q1
  obtain rfl := Option.some.inj q1
  have hk := t.inv.root (parId i) _ hrt
  obtain ⟨b', ca, E, fz, f1, f2, f3, f4, f5⟩ := hk.box q2
  rw [q3] at f1
  obtain rfl : b = b' := by simpa using f1
  have hsz : ca.size = n := by rw [f3]; simp only [weak_len, b3]
  refine ⟨b, ca, E, fz, q4, f2, hsz, by rw [← hsz]; exact f4, f5, fun j pc hj hpc => ⟨fun hkept => ?_, fun hkept u' hu' => ?_⟩⟩
  ·obtain ⟨x, d, yv, e1, e2, e3, e4, e5⟩ := b4 j pc hj hpc hkept
   obtain ⟨x', w1, _, _, w3⟩ := weak_at r.cells ((List.range n).map fun j => match (ents pars)[i + 1 + j]? with | some (.cell pc) => pc.d2 | _ => 0) j x e2
   obtain ⟨d', w4, w5⟩ := w3 d yv e3
   have hd' := w5 pc.d2 (by rw [List.getElem?_map, List.getElem?_range hj]; simp only [Option.map_some, hpc])
   obtain ⟨rv, m1, m2⟩ := hk.cell j x' w1
   rw [w4] at m2
   have hrv : ca[j]? = some rv := by
    have m1' := m1
    unfold PV.rootVal at m1'
    rw [q2, q3] at m1'
    simp only [World.cell?] at m1'
    rw [show c.w.heap[b]? = _ from f2] at m1'
    simpa using m1'
   refine ⟨yv, rv, e1, e5, hrv, ?_⟩
   have m2 : Rep c.w Z2 yv.s d' yv.x rv (fun b => O2 b = some (.cell (parId i) j)) := m2
   rcases e4 with e4 | e4
   ·rw [hd', Nat.min_eq_right e4] at m2; exact m2
   ·exact m2.scalar (by rw [e5]; exact e4)
  ·obtain ⟨r', x, k, l1, l2, l3, l4⟩ := hp2.lk i n j pc u' h1 hj hpc hkept hu'
   rw [Nat.zero_add] at l1 l4
   have l1 : weakAll c.rt T (parId i) = some r' := l1
   rw [hrt] at l1
   obtain rfl := Option.some.inj l1
   unfold PV.rootVal at l4
   rw [q2, q3] at l4
   simp only [World.cell?] at l4
   rw [show c.w.heap[b]? = _ from f2] at l4
   simpa using l4
def decS (es : List Ent) (res : Option Nat) : Site → Option Site
 | .det n => some (.det n)
 | .box id => if res = some id then some (.det 1) else if isPar id = true then (match es[id / 4]? with | some (.box _) => some (.cell (id / 4) 0) | _ => none) else none
 | .cell id j => if res = some id then some (.det (2 * j)) else if isPar id = true then (match es[id / 4]? with | some (.val _) => if j = 0 then some (.cell (id / 4) 0) else none | some (.box n) => if j < n then some (.cell (id / 4 + 1 + j) 0) else none | _ => none) else none
def decO (es : List Ent) (res : Option Nat) (O : Own) : Own := fun b => (O b).bind (decS es res)
theorem isPar_id {id : Nat} (h : isPar id = true) : id = parId (id / 4) := by
 unfold isPar at h
 rw [Nat.beq_eq] at h
 unfold parId
 omega
theorem parId_is {k : Nat} : isPar (parId k) = true ∧ parId k / 4 = k := by
 unfold isPar parId
 rw [Nat.beq_eq]
 omega
section
variable {pars : List Par} {res : Option Nat} {O : Own}
theorem decO_cell {b k : Nat} (h : decO (ents pars) res O b = some (.cell k 0)) : (∃ pc, (ents pars)[k]? = some (.val pc) ∧ O b = some (.cell (parId k) 0)) ∨ (∃ n, (ents pars)[k]? = some (.box n) ∧ O b = some (.box (parId k))) ∨ ∃ i n j, (ents pars)[i]? = some (.box n) ∧ j < n ∧ k = i + 1 + j ∧ O b = some (.cell (parId i) j) := by
 unfold decO at h
 cases ho : O b with
 | none => rw [ho] at h; cases h
 | some s =>
  rw [ho] at h
  simp only [Option.bind_some] at h
  cases s with
  | det n => cases h
  | box id =>
   simp only [decS] at h
   split at h
   ·cases h
   ·split at h
    ·rename_i hp
     split at h
     ·rename_i n hn
      simp only [Option.some.injEq, Site.cell.injEq, and_true] at h
      rw [isPar_id hp]
      subst h
      exact .inr (.inl ⟨n, hn, rfl⟩)
     ·cases h
    ·cases h
  | cell id j =>
   simp only [decS] at h
   split at h
   ·cases h
   ·split at h
    ·rename_i hp
     split at h
     ·rename_i pc hn
      split at h
      ·rename_i hj
       simp only [Option.some.injEq, Site.cell.injEq, and_true] at h
       rw [isPar_id hp]
       subst h
       subst hj
       exact .inl ⟨pc, hn, rfl⟩
      ·cases h
     ·rename_i n hn
      split at h
      ·rename_i hj
       simp only [Option.some.injEq, Site.cell.injEq, and_true] at h
       rw [isPar_id hp]
       exact .inr (.inr ⟨_, n, j, hn, hj, h.symm, rfl⟩)
      ·cases h
     ·cases h
    ·cases h
theorem decO_val (hres : ∀ id, res = some id → isPar id = false) {b k : Nat} {pc : PC} (hk : (ents pars)[k]? = some (.val pc)) : decO (ents pars) res O b = some (.cell k 0) ↔ O b = some (.cell (parId k) 0) := by
 constructor
 ·intro h
  rcases decO_cell h with ⟨_, _, h⟩ | ⟨n, h1, _⟩ | ⟨i, n, j, h1, h2, h3, _⟩
  ·exact h
  ·rw [hk] at h1; cases h1
  ·obtain ⟨pc', h4⟩ := ents_box h1 j h2
   rw [← h3, hk] at h4; cases h4
 ·intro h
  unfold decO
  rw [h]
  simp only [Option.bind_some, decS]
  rw [if_neg (fun e => by have := hres _ e; rw [parId_is.1] at this; cases this), if_pos parId_is.1, parId_is.2, hk]
  simp
theorem decO_box (hres : ∀ id, res = some id → isPar id = false) {b k n : Nat} (hk : (ents pars)[k]? = some (.box n)) : decO (ents pars) res O b = some (.cell k 0) ↔ O b = some (.box (parId k)) := by
 constructor
 ·intro h
  rcases decO_cell h with ⟨_, h1, _⟩ | ⟨n, h1, h2⟩ | ⟨i, n, j, h1, h2, h3, _⟩
  ·rw [hk] at h1; cases h1
  ·exact h2
  ·obtain ⟨pc', h4⟩ := ents_box h1 j h2
   rw [← h3, hk] at h4; cases h4
 ·intro h
  unfold decO
  rw [h]
  simp only [Option.bind_some, decS]
  rw [if_neg (fun e => by have := hres _ e; rw [parId_is.1] at this; cases this), if_pos parId_is.1, parId_is.2, hk]
theorem decO_bcell (hres : ∀ id, res = some id → isPar id = false) {b i n j : Nat} (hi : (ents pars)[i]? = some (.box n)) (hj : j < n) : decO (ents pars) res O b = some (.cell (i + 1 + j) 0) ↔ O b = some (.cell (parId i) j) := by
 obtain ⟨pc, hpc⟩ := ents_box hi j hj
 constructor
 ·intro h
  rcases decO_cell h with ⟨_, h1, _⟩ | ⟨n, h1, h2⟩ | ⟨i', n', j', h1, h2, h3, h4⟩
  ·rw [hpc] at h1; cases h1
  ·rw [hpc] at h1; cases h1
  ·have : i' = i := by
    rcases Nat.lt_trichotomy i i' with q | q | q
    ·obtain ⟨pc', h5⟩ := ents_box hi (i' - (i + 1)) (by omega)
     rw [show i + 1 + (i' - (i + 1)) = i' by omega, h1] at h5; cases h5
    ·exact q.symm
    ·obtain ⟨pc', h5⟩ := ents_box h1 (i - (i' + 1)) (by omega)
     rw [show i' + 1 + (i - (i' + 1)) = i by omega, hi] at h5; cases h5
   subst this
   have : j' = j := by omega
   subst this
   exact h4
 ·intro h
  unfold decO
  rw [h]
  simp only [Option.bind_some, decS]
  rw [if_neg (fun e => by have := hres _ e; rw [parId_is.1] at this; cases this), if_pos parId_is.1, parId_is.2, hi]
  simp [hj]
end
theorem ResR.len {w : World} {Z : Fp} {O : Own} : ∀ {rs : List (RK × List (S × Nat))} {i : Nat} {cs : List CV} {vs : List Value}, ResR w Z O rs i cs vs → cs.length = (rs.flatMap (·.2)).length
 | [], _, [], [], _ => rfl
 | (k, l) :: rs, i, cs, v :: vs, h => by
  obtain ⟨c1, c2, us, rfl, h2, _, _, h4⟩ := h
  simp only [List.length_append, List.flatMap_cons, (ResC.len h2).1, ResR.len h4]
theorem post_of {g : Sig} {w0 : World} {Z : Fp} {F : Nat → Fp} {c : Cf} (hc : c.Inv) (hfr : Fr w0 Z F c) {vs us : List Value} (hflat : Flat w0 g.ps vs us) {ys : List (Option CV)} (he : EndF c g.ps us ys) {res : Option Nat} (hres : ∀ id, res = some id → isPar id = false) {out : TupT g.outs} {cs bs : List CV}
  (hout : ofTup g.outs out = cs ++ bs) (hf : fill (ents g.ps) bs = some ys) {rv : List Value} (hrr : ResR c.w c.Z (decO (ents g.ps) res c.O) g.rs 0 cs rv) (hdet : ∀ b k, decO (ents g.ps) res c.O b = some (.det k) → k < 2 * g.res.length) :
  ∃ O Z' us', Post1 g w0 c.w Z F out vs us (packV rv) O Z' us' := by
 have hlen : cs.length = g.res.length := hrr.len
 have htake : (ofTup g.outs out).take g.res.length = cs := by rw [hout, ← hlen, List.take_append_of_le_length (Nat.le_refl _), List.take_length]
 have hdrop : (ofTup g.outs out).drop g.res.length = bs := by rw [hout, ← hlen]; simp
 obtain ⟨us', hflat'⟩ := flat_new (w' := c.w) hflat fun i n u h1 h2 => by
  obtain ⟨b, ca, E, fz, q1, q2, q3, q4, _⟩ := he.b i n u h1 h2
  exact ⟨b, ca, E, fz, q1, q2, q3, q4⟩
 have osome : ∀ b s, decO (ents g.ps) res c.O b = some s → ∃ s', c.O b = some s' := fun b s h => by
  unfold decO at h
  cases ho : c.O b with
  | none => rw [ho] at h; cases h
  | some s' => exact ⟨s', rfl⟩
 refine ⟨decO (ents g.ps) res c.O, c.Z, us', hfr.env, hfr.size, fun b hb hn => (hfr.same b hb hn).1, hflat', hfr.z, hfr.z', fun b hb => ?_, hc.zs, fun b s hs => ?_, ⟨ys, by rw [hdrop]; exact hf, fun k e y u u' h1 h2 h3 h4 => ?_⟩, hdet, rv, by rw [htake]; exact hrr, rfl⟩
 ·unfold decO; rw [hc.zo b hb]; rfl
 ·obtain ⟨s', ho⟩ := osome b s hs
  refine ⟨hc.os b _ ho, ?_⟩
  by_cases hl : b < w0.heap.size
  ·by_cases hn : ∃ i, F i b
   ·exact .inl hn
   ·have := (hfr.same b hl fun i hi => hn ⟨i, hi⟩).2
    rw [ho] at this; cases this
  ·exact .inr (by omega)
 ·cases e with
  | val pc =>
   cases y with
   | none => trivial
   | some yv =>
    have hb : Ent.back (.val pc) = true := by
     cases hb : Ent.back (.val pc) with
     | true => rfl
     | false => have := ((fill_at hf).2 k _ h1).2 hb; rw [h2] at this; cases this
    obtain ⟨yv', q1, q2, q3⟩ := he.v k pc u h1 hb h3
    rw [h2] at q1
    obtain rfl := Option.some.inj (Option.some.inj q1)
    refine ⟨q2, ?_⟩
    have e : (fun b => decO (ents g.ps) res c.O b = some (.cell k 0)) = (fun b => c.O b = some (.cell (parId k) 0)) := by funext b; exact propext (decO_val hres h1)
    rw [e]
    exact q3
  | box n =>
   obtain ⟨b, ca, E, fz, q1, q2, q3, q4, q5, _⟩ := he.b k n u h1 h3
   refine ⟨b, q1, ?_⟩
   funext b'
   exact propext ((decO_box hres h1).trans (q5 b'))
  | cell pc =>
   obtain ⟨i, n, j, m1, m2, m3⟩ := ents_cell h1
   subst m2
   have hui : ∃ ui, us[i]? = some ui := by
    have := (List.getElem?_eq_some_iff.1 h3).1
    have : i < us.length := by omega
    exact ⟨us[i], by simp [this]⟩
   obtain ⟨ui, hui⟩ := hui
   obtain ⟨b, ca, E, fz, q1, q2, q3, q4, q5, q6⟩ := he.b i n ui m1 hui
   obtain ⟨b', E', fz', p1, p2, p3, p4⟩ := flat_box hflat' i n m1
   have hbb : b' = b := by
    have := flat_same hflat hflat' i (fun pc hpc => by rw [m1] at hpc; cases hpc)
    rw [p1, hui, q1] at this
    simpa using this
   subst hbb
   rw [p2] at q2
   simp only [Option.some.injEq, Obj.cells.injEq] at q2
   have hca : ca[j]? = some u' := by
    rw [← q2.1]
    have : ((us'.drop (i + 1)).take n)[j]? = some u' := by
     rw [List.getElem?_take_of_lt m3, List.getElem?_drop]
     exact h4
    simpa using this
   obtain ⟨q7, q8⟩ := q6 j pc m3 h1
   cases y with
   | none =>
    have hb : pc.kept = false := by
     cases hb : pc.kept with
     | false => rfl
     | true => obtain ⟨z, hz⟩ := ((fill_at hf).2 _ _ h1).1 hb; rw [h2] at hz; cases hz
    have := q8 hb u h3
    rw [hca] at this
    exact Option.some.inj this
   | some yv =>
    have hb : pc.kept = true := by
     cases hb : pc.kept with
     | true => rfl
     | false => have := ((fill_at hf).2 _ _ h1).2 hb; rw [h2] at this; cases this
    obtain ⟨yv', u2, e1, e2, e3, e4⟩ := q7 hb
    rw [h2] at e1
    obtain rfl := Option.some.inj (Option.some.inj e1)
    rw [hca] at e3
    obtain rfl := Option.some.inj e3
    refine ⟨e2, ?_⟩
    have e : (fun b => decO (ents g.ps) res c.O b = some (.cell (i + 1 + j) 0)) = (fun b => c.O b = some (.cell (parId i) j)) := by funext b; exact propext (decO_bcell hres m1 m3)
    rw [e]
    exact e4
theorem ResC.of {w : World} {Z : Fp} {O : Own} : ∀ {l : List (S × Nat)} {i : Nat} {cs : List CV} {us : List Value}, cs.length = l.length → us.length = l.length → (∀ (j : Nat) s d, l[j]? = some (s, d) → ∃ c u, cs[j]? = some c ∧ us[j]? = some u ∧ c.s = s ∧ Rep w Z c.s d c.x u (fun b => O b = some (.det (2 * (i + j))))) → ResC w Z O l i cs us
 | [], _, [], [], _, _, _ => trivial
 | [], _, _ :: _, _, h, _, _ => by cases h
 | [], _, [], _ :: _, _, h, _ => by cases h
 | _ :: _, _, [], _, h, _, _ => by cases h
 | _ :: _, _, _ :: _, [], _, h, _ => by cases h
 | (s, d) :: l, i, c :: cs, u :: us, h1, h2, h => by
  obtain ⟨c', u', e1, e2, e3, e4⟩ := h 0 s d rfl
  simp only [List.getElem?_cons_zero, Option.some.injEq] at e1 e2
  subst e1
  subst e2
  refine ⟨e3, by simpa using e4, ResC.of (by simpa using h1) (by simpa using h2) fun j s d hj => ?_⟩
  obtain ⟨c', u', f1, f2, f3, f4⟩ := h (j + 1) s d (by simpa using hj)
  exact ⟨c', u', by simpa using f1, by simpa using f2, f3, by rw [show i + 1 + j = i + (j + 1) by omega]; exact f4⟩
theorem outBox_at : ∀ {l : List (S × Nat)} {xs : List VC} {cs : List CV}, outBox l xs = some cs → xs.length = l.length ∧ cs.length = l.length ∧ ∀ (j : Nat) s d, l[j]? = some (s, d) → ∃ x d0 cv, xs[j]? = some x ∧ x.c = .mk d0 cv ∧ cs[j]? = some cv ∧ cv.s = s ∧ (d ≤ d0 ∨ s.isRow = false)
 | [], [], cs, h => by
  simp only [outBox, Option.some.injEq] at h
  subst h
  exact ⟨rfl, rfl, fun j s d hj => by simp at hj⟩
 | [], _ :: _, _, h => by cases h
 | _ :: _, [], _, h => by cases h
 | (s, d) :: l, x :: xs, cs, h => by
  simp only [outBox] at h
  split at h
  ·rename_i d0 c hxc
   obtain ⟨hb, h⟩ := cond_s h
   simp only [Bool.or_eq_true, Nat.ble_eq, Bool.not_eq_true'] at hb
   split at h
   ·rename_i y hy
    split at h
    ·rename_i m hm
     obtain rfl := Option.some.inj h
     obtain ⟨h1, h2, h3⟩ := outBox_at hm
     have hcy := CV.as_some hy
     subst hcy
     refine ⟨by simp [h1], by simp [h2], fun j s' d' hj => ?_⟩
     cases j with
     | zero =>
      simp only [List.getElem?_cons_zero, Option.some.injEq, Prod.mk.injEq] at hj
      obtain ⟨rfl, rfl⟩ := hj
      exact ⟨x, d0, _, rfl, hxc, rfl, rfl, hb⟩
     | succ j => exact h3 j s' d' (by simpa using hj)
    ·cases h
   ·cases h
  ·cases h
theorem finish_sound (ok : ∀ t, tyOk Pg t (cx.ty t) = true) {g : Sig} (hsig : ∀ r ∈ g.rs, 0 < r.2.length) {fn : Func} {nt : Nat} {c : Cf} {s : St} {a : Act} (hat : At nt c s a) {out : TupT g.outs} (h : finish cx.ty g fn.results.toList s = some out)
  {w0 : World} {Z : Fp} {F : Nat → Fp} (hfr : Fr w0 Z F c) {vs us : List Value} (hflat : Flat w0 g.ps vs us) (hpar : ParF c g.ps 0 us) :
  ∃ v, (results fn a.tmps).run Pg c.w = .ok v c.w ∧ ∃ O Z' us', Post1 g w0 c.w Z F out vs us v O Z' us' := by
 unfold finish at h
 split at h
 ·cases h
 ·rename_i pss hps
  obtain ⟨vals, hres, hl, hV⟩ := results_run (fn := fn) ok hat hps
  refine ⟨packV vals, hres, ?_⟩
  split at h
  ·cases h
  ·rename_i cs rt1 hout
   split at h
   ·cases h
   ·rename_i bs hbs
    have hof := ofTup_of h
    obtain ⟨ys, hf, hbf⟩ := backs_spec hbs
    rw [← hat.rt] at hout
    unfold outs at hout
    split at hout
    ·
     rename_i l p hrs
     split at hout
     ·rename_i cs' hptr
      simp only [Option.some.injEq, Prod.mk.injEq] at hout
      obtain ⟨rfl, rfl⟩ := hout
      unfold outPtr at hptr
      split at hptr
      ·rename_i id j st n
       split at hptr
       ·obtain ⟨hb, hptr2⟩ := cond_n hptr
        clear hptr
        simp only [Bool.or_eq_false_iff, Bool.not_eq_false', Nat.beq_eq] at hb
        obtain ⟨rfl, hnp⟩ := hb
        split at hptr2
        ·rename_i r hr
         obtain ⟨hvirt, hptr⟩ := cond_n hptr2
         clear hptr2
         obtain ⟨x1, x2, x3⟩ := outBox_at hptr
         let T := (id, l.map (·.2)) :: (List.range (ents g.ps).length).filterMap (target (ents g.ps))
         have hT : (T.map (·.1)).Nodup := by
          simp only [T, List.map_cons]
          refine List.nodup_cons.2 ⟨fun hm => ?_, target_nodup List.nodup_range⟩
          obtain ⟨q, m1, m2⟩ := List.mem_map.1 hm
          have := target_par m1
          rw [m2, hnp] at this
          cases this
         obtain ⟨O2, Z2, t2, n2'⟩ := weakAll_to T c hat.inv
         have n2 : ND O2 := fun b k hb => hat.nd b k ((n2' b k).1 hb)
         have he := end_facts hat.inv (.inr trivial) hpar hbf hT (fun q hq => List.mem_cons_of_mem _ hq) t2
         have hrt := weakAll_at T c.rt id (l.map (·.2)) r hT (by simp [T]) hr
         have hk := t2.inv.root id _ hrt
         obtain ⟨b, ca, E, fz, f1, f2, f3, f4, f5⟩ := hk.box hvirt
         have hres : ∀ id', some id = some id' → isPar id' = false := fun id' e => by rw [← Option.some.inj e]; exact hnp
         have hvv := hV 0 _ (vals.headD undef) rfl (by
          match vals, hl with
          | [v], _ => rfl)
         obtain ⟨p', hp1, hp2⟩ := hvv
         simp only [List.cons.injEq, and_true] at hp1
         subst hp1
         have hp3 := PR_stab t2.stb hp2
         obtain ⟨r', q1, q2, b', q3, q4⟩ := hp3
         rw [show c.γ id = _ from f1] at q3
         obtain rfl : b = b' := by simpa using q3
         have hO : ∀ b' j, decO (ents g.ps) (some id) O2 b' = some (.det (2 * j)) ↔ O2 b' = some (.cell id j) := fun b' j => by
          unfold decO
          constructor
          ·intro hd
           cases ho : O2 b' with
           | none => rw [ho] at hd; cases hd
           | some sx =>
            rw [ho] at hd
            simp only [Option.bind_some] at hd
            cases sx with
            | det n => exact absurd ho (n2 b' n)
            | box i =>
             simp only [decS] at hd
             split at hd
             ·simp only [Option.some.injEq, Site.det.injEq] at hd; omega
             ·split at hd
              ·split at hd <;> cases hd
              ·cases hd
            | cell i k =>
             simp only [decS] at hd
             split at hd
             ·rename_i e
              simp only [Option.some.injEq, Site.det.injEq] at hd e
              subst e
              rw [show k = j by omega]
             ·split at hd
              ·split at hd
               ·split at hd <;> cases hd
               ·split at hd <;> cases hd
               ·cases hd
              ·cases hd
          ·intro ho
           rw [ho]
           simp [decS]
         have hO1 : ∀ b' n, n % 2 = 1 → (decO (ents g.ps) (some id) O2 b' = some (.det n) ↔ n = 1 ∧ O2 b' = some (.box id)) := fun b' n hn => by
          unfold decO
          constructor
          ·intro hd
           cases ho : O2 b' with
           | none => rw [ho] at hd; cases hd
           | some sx =>
            rw [ho] at hd
            simp only [Option.bind_some] at hd
            cases sx with
            | det n => exact absurd ho (n2 b' n)
            | box i =>
             simp only [decS] at hd
             split at hd
             ·rename_i e
              simp only [Option.some.injEq, Site.det.injEq] at hd e
              subst e
              exact ⟨hd.symm, rfl⟩
             ·split at hd
              ·split at hd <;> cases hd
              ·cases hd
            | cell i k =>
             simp only [decS] at hd
             split at hd
             ·simp only [Option.some.injEq, Site.det.injEq] at hd; omega
             ·split at hd
              ·split at hd
               ·split at hd <;> cases hd
               ·split at hd <;> cases hd
               ·cases hd
              ·cases hd
          ·rintro ⟨rfl, ho⟩
           rw [ho]
           simp [decS]
         have hclen : ca.size = l.length := by rw [f3]; simp only [weak_len, x1]
         have hl0 : 0 < l.length := hsig (.ptr, l) (by rw [hrs]; simp)
         have hvals : vals = [vals.headD undef] := by
          match vals, hl with
          | [v], _ => rfl
         have hrr : ResR c.w Z2 (decO (ents g.ps) (some id) O2) g.rs 0 cs' vals := by
          rw [hvals, hrs]
          refine ⟨cs', [], ca.toList, by simp, ResC.of x2 (by simpa using hclen) fun j sh d hj => ?_, fun b' k' hk1 hk2 hb' => ⟨rfl, ?_⟩, ⟨b, E, fz, q4, by simpa using f2, by simpa using f4, fun b' => ?_⟩, trivial⟩
          ·obtain ⟨x, d0, cv, y1, y2, y3, y4, y5⟩ := x3 j sh d hj
           obtain ⟨x', w1, _, _, w3⟩ := weak_at r.cells (l.map (·.2)) j x y1
           obtain ⟨d', w4, w5⟩ := w3 d0 cv y2
           have hd' := w5 d (by rw [List.getElem?_map, hj]; rfl)
           obtain ⟨rv, m1, m2⟩ := hk.cell j x' w1
           rw [w4] at m2
           have hrv : ca[j]? = some rv := by
            unfold PV.rootVal at m1
            rw [hvirt, show c.γ id = _ from f1] at m1
            simp only [World.cell?] at m1
            rw [show c.w.heap[b]? = _ from f2] at m1
            simpa using m1
           refine ⟨cv, rv, y3, by simpa using hrv, y4, ?_⟩
           have e : (fun b => decO (ents g.ps) (some id) O2 b = some (.det (2 * (0 + j)))) = (fun b => O2 b = some (.cell id j)) := by funext b'; rw [Nat.zero_add]; exact propext (hO b' j)
           rw [e]
           have m2 : Rep c.w Z2 cv.s d' cv.x rv (fun b => O2 b = some (.cell id j)) := m2
           rcases y5 with y5 | y5
           ·rw [hd', Nat.min_eq_right y5] at m2; exact m2
           ·exact m2.scalar (by rw [y4]; exact y5)
          ·have := ((hO1 b' (2 * k' + 1) (by omega)).1 hb').1
           omega
          ·rw [hO1 b' (2 * 0 + 1) (by omega)]
           exact ⟨fun h => (f5 b').1 h.2, fun h => ⟨by omega, (f5 b').2 h⟩⟩
         refine post_of (c := ⟨weakAll c.rt T, c.w, c.γ, O2, Z2⟩) t2.inv (hfr.to t2.ext) hflat he hres hof hf hrr fun b' k hk' => ?_
         have hrl : g.res.length = l.length := by unfold Sig.res; rw [hrs]; simp
         rw [hrl]
         rcases Nat.mod_two_eq_zero_or_one k with h0 | h1
         ·have := (hO b' (k / 2)).1 (by rw [show 2 * (k / 2) = k by omega]; exact hk')
          by_cases hlt : k / 2 < l.length
          ·omega
          ·exact absurd this (hk.beyond (k / 2) (by simp only [weak_len, x1]; omega) b')
         ·have := ((hO1 b' k h1).1 hk').1
          omega
        ·cases hptr2
       ·cases hptr
      ·cases hptr
     ·cases hout
    ·
     obtain ⟨O1, Z1, t1, r1, a1, b1⟩ := outAll_to (i := 0) hout hat.inv (fun b k _ => hat.nd b k) hl hV
     let T := (List.range (ents g.ps).length).filterMap (target (ents g.ps))
     have hT : (T.map (·.1)).Nodup := target_nodup List.nodup_range
     obtain ⟨O2, Z2, t2, n2⟩ := weakAll_to T ⟨rt1, c.w, c.γ, O1, Z1⟩ t1.inv
     have he := end_facts (c := ⟨rt1, c.w, c.γ, O1, Z1⟩) t1.inv (.inr trivial) (hpar.to t1) hbf hT (fun q hq => hq) t2
     have hO : ∀ b k, decO (ents g.ps) none O2 b = some (.det k) ↔ O1 b = some (.det k) := fun b k => by
      rw [← show (O2 b = some (.det k) ↔ O1 b = some (.det k)) from n2 b k]
      unfold decO
      constructor
      ·intro hd
       cases ho : O2 b with
       | none => rw [ho] at hd; cases hd
       | some sx =>
        rw [ho] at hd
        simp only [Option.bind_some] at hd
        cases sx with
        | det n => exact hd
        | box i =>
         simp only [decS] at hd
         split at hd
         ·rename_i e; cases e
         ·split at hd
          ·split at hd <;> cases hd
          ·cases hd
        | cell i k =>
         simp only [decS] at hd
         split at hd
         ·rename_i e; cases e
         ·split at hd
          ·split at hd
           ·split at hd <;> cases hd
           ·split at hd <;> cases hd
           ·cases hd
          ·cases hd
      ·intro ho
       rw [ho]
       rfl
     refine post_of (c := ⟨weakAll rt1 T, c.w, c.γ, O2, Z2⟩) (res := none) t2.inv ((hfr.to t1.ext).to t2.ext) hflat he (fun id e => by cases e) hof hf (ResR.map (fun k _ b => hO b k) (fun s d _ x u G hr => hr.mono t2.ext.z) r1) fun b k hk => ?_
     have h1 := (hO b k).1 hk
     rcases Nat.lt_or_ge k (2 * g.res.length) with h2 | h2
     ·exact h2
     ·exact absurd h1 (b1 b k (by simpa [Sig.res] using h2))
end Go.PV

namespace Go.PV
variable {Pg : Program} {cx : Cx}
theorem needV_val : ∀ {pars : List Par} {k i : Nat} {pc : PC}, (ents pars)[i]? = some (.val pc) → Ent.back (.val pc) = true → parId (k + i) ∈ needV k pars
 | [], k, i, pc, h, _ => by simp [ents] at h
 | .val a l :: ps, k, i, pc, h, hb => by
  simp only [ents] at h
  simp only [needV, List.mem_append]
  rcases split_at h with h1 | ⟨m, rfl, h1⟩
  ·rw [List.getElem?_map, Option.map_eq_some_iff] at h1
   obtain ⟨pc', g1, g2⟩ := h1
   cases g2
   refine .inl (List.mem_filterMap.2 ⟨(pc, k + i), ?_, ?_⟩)
   ·rw [List.mk_mem_zipIdx_iff_le_and_getElem?_sub]
    exact ⟨by omega, by rw [show k + i - k = i by omega]; exact g1⟩
   ·simp only
    rw [show (pc.kept && !(Nat.beq pc.d 0)) = true from hb]
    rfl
  ·have := needV_val (k := k + l.length) h1 hb
   rw [List.length_map, show k + (l.length + m) = k + l.length + m by omega]
   exact .inr this
 | .ptr l :: ps, k, i, pc, h, hb => by
  simp only [ents] at h
  cases i with
  | zero => simp at h
  | succ i =>
   simp only [List.getElem?_cons_succ] at h
   rcases split_at h with h1 | ⟨m, rfl, h1⟩
   ·rw [List.getElem?_map, Option.map_eq_some_iff] at h1
    obtain ⟨_, _, g2⟩ := h1
    cases g2
   ·have := needV_val (k := k + 1 + l.length) h1 hb
    rw [List.length_map, show k + (l.length + m + 1) = k + 1 + l.length + m by omega]
    exact this
theorem needB_box : ∀ {pars : List Par} {k i n : Nat}, (ents pars)[i]? = some (.box n) → parId (k + i) ∈ needB k pars
 | [], k, i, n, h => by simp [ents] at h
 | .val a l :: ps, k, i, n, h => by
  simp only [ents] at h
  simp only [needB]
  rcases split_at h with h1 | ⟨m, rfl, h1⟩
  ·rw [List.getElem?_map, Option.map_eq_some_iff] at h1
   obtain ⟨_, _, g2⟩ := h1
   cases g2
  ·have := needB_box (k := k + l.length) h1
   rw [List.length_map, show k + (l.length + m) = k + l.length + m by omega]
   exact this
 | .ptr l :: ps, k, i, n, h => by
  simp only [ents] at h
  simp only [needB, List.mem_cons]
  cases i with
  | zero => exact .inl rfl
  | succ i =>
   simp only [List.getElem?_cons_succ] at h
   rcases split_at h with h1 | ⟨m, rfl, h1⟩
   ·rw [List.getElem?_map, Option.map_eq_some_iff] at h1
    obtain ⟨_, _, g2⟩ := h1
    cases g2
   ·have := needB_box (k := k + 1 + l.length) h1
    rw [List.length_map, show k + (l.length + m + 1) = k + 1 + l.length + m by omega]
    exact .inr this
theorem tmOf_at : ∀ {ps : List P} {i t : Nat}, tmOf ps i t = .dead ∨ ∃ m p, t = i + m ∧ ps[m]? = some p ∧ tmOf ps i t = p
 | [], i, t => .inl rfl
 | p :: ps, i, t => by
  simp only [tmOf]
  cases hb : Nat.beq t i with
  | true => exact .inr ⟨0, p, by rw [Nat.eq_of_beq_eq_true hb]; rfl, rfl, rfl⟩
  | false =>
   rcases tmOf_at (ps := ps) (i := i + 1) (t := t) with h | ⟨m, q, h1, h2, h3⟩
   ·exact .inl h
   ·exact .inr ⟨m + 1, q, by omega, h2, h3⟩
theorem Sub.fr {w0 : World} {Z : Fp} {F : Nat → Fp} {nv nb : List Nat} {c c' : Cf} (h : Fr w0 Z F c) (t : Sub nv nb c c') : Fr w0 Z F c' where
 env := h.env.trans t.env
 size := Nat.le_trans h.size t.size
 same b hb hn := by
  obtain ⟨h1, h2⟩ := h.same b hb hn
  obtain ⟨k1, k2⟩ := t.same b (Nat.lt_of_lt_of_le hb h.size) h2
  exact ⟨k1.trans h1, k2⟩
 z b hb := t.z b (h.z b hb)
 z' b hb := by
  rcases t.z' b hb with h1 | h1 | h1
  ·exact h.z' b h1
  ·by_cases hl : b < w0.heap.size
   ·by_cases hn : ∃ i, F i b
    ·exact .inr (.inl hn)
    ·exact absurd (h.same b hl fun i hi => hn ⟨i, hi⟩).2 h1
   ·exact .inr (.inr (by omega))
  ·exact .inr (.inr (Nat.le_trans h.size h1))
theorem Sub.par {pars : List Par} {us : List Value} {c c' : Cf} (h : ParF c pars 0 us) (t : Sub (needV 0 pars) (needB 0 pars) c c') : ParF c' pars 0 us :=
 ⟨fun i pc u h1 h2 h3 h4 => t.v _ (needV_val h1 h2) u (h.v i pc u h1 h2 h3 h4), fun i n u h1 h2 => (t.b _ (needB_box h1)).1 u (h.b i n u h1 h2), fun i n j pc u h1 h2 h3 h4 h5 => (t.b _ (needB_box h1)).2 j u (h.lk i n j pc u h1 h2 h3 h4 h5)⟩
theorem run_sound (ok : ∀ t, tyOk Pg t (cx.ty t) = true) (okE : ∀ t, cx.eqs t = true → eqOk Pg t (cx.ty t) = true) (hcall : CallOk Pg cx) (hsig : sigsOk cx) (hmix : Pg.follows .mixedOrders = true)
  {g : Sig} (hg : ∀ r ∈ g.rs, 0 < r.2.length) (hv : cx.nv = needV 0 g.ps) (hb : cx.nb = needB 0 g.ps) {f : Nat} {fn : Func} {body : Code} (h1 : Pg.funcs[f]? = some fn) (h2 : fn.body = some body) (h3 : fn.name ≠ "runtime.NumGoroutine") (h4 : cx.nt ≤ fn.ntmps) :
  Contract Pg g f (run cx g fn.results.toList body) := by
 intro args out h
 refine ⟨⟨fn, body, h1, h2, h3⟩, fun w Z F vs us hp => ?_⟩
 unfold run at h
 split at h
 ·cases h
 ·rename_i ps rs hen
  obtain ⟨xs, hpad, hE⟩ := hp.ent
  have hbase := baseC_inv (w := w) (Z := Z) (F := F) hp.one hp.off hp.zs
  have hb0 : Ent0 F (baseC w Z F) (0 + (ents g.ps).length) := by
   refine ⟨fun b i => ?_, fun i _ => rfl⟩
   rw [Nat.zero_add]
   constructor
   ·intro hd
    obtain ⟨j, e, hj⟩ := (baseO_iff hp.one).1 hd
    cases e
    refine ⟨hj, ?_⟩
    rcases Nat.lt_or_ge i (ents g.ps).length with hl | hl
    ·exact hl
    ·exact absurd hj (hp.fin i hl b)
   ·rintro ⟨hf, _⟩
    exact (baseO_iff hp.one).2 ⟨i, rfl, hf⟩
  obtain ⟨γ, O, t, e0, hl, hP, hpar⟩ := enter_to (F := F) hen hpad hp.flat (fun i e x u q1 q2 q3 => by rw [Nat.zero_add]; exact hE i e x u q1 q2 q3) hbase hb0
  have hnd : ND O := fun b k hd => by have := ((e0.det b k).1 hd).2; omega
  have hfr : Fr w Z F ⟨rtOf rs, w, γ, O, Z⟩ := by
   refine ⟨Nat.le_refl _, fun b hb hn => ⟨rfl, (t.ext.same b hb (baseO_none.2 hn)).2⟩, fun b hb => hb, fun b hb => .inl hb, SameEnv.refl _⟩
  let a : Act := { tmps := vs.toArray ++ Array.replicate (fn.ntmps - vs.toArray.size) undef, defers := [] }
  have hat : At cx.nt ⟨rtOf rs, w, γ, O, Z⟩ ⟨tmOf ps 0, rtOf rs⟩ a := by
   refine ⟨t.inv, hnd, rfl, ?_, rfl, fun k => ?_⟩
   ·simp only [a, Array.size_append, Array.size_replicate]
    omega
   ·rcases tmOf_at (ps := ps) (i := 0) (t := k) with q | ⟨m, p, rfl, q2, q3⟩
    ·simp only [q]; exact PR_dead
    ·simp only [q3]
     have hm := (List.getElem?_eq_some_iff.1 q2).1
     have hmv : m < vs.length := by omega
     have e : a.tmps.getD (0 + m) undef = vs[m] := by
      simp only [a, Nat.zero_add, Array.getD_eq_getD_getElem?]
      rw [Array.getElem?_append_left (by simpa using hmv)]
      simp [hmv]
     rw [e]
     exact hP m p vs[m] q2 (by simp [hmv])
  refine calls_of_wp h1 h2 (exec_sound ok okE hcall hsig hmix (c0 := ⟨rtOf rs, w, γ, O, Z⟩) body 0 _ _ _ _ ⟨rtOf rs, w, γ, O, Z⟩ a _ h hat (To.refl t.inv).sub ?_ ?_ ?_)
  ·intro c' s' a' hat' hs' hk
   rw [hv, hb] at hs'
   obtain ⟨v, r1, r2⟩ := finish_sound (fn := fn) ok hg hat' hk (Sub.fr hfr hs') hp.flat (Sub.par hpar hs')
   exact ⟨hat'.df, v, r1, v, rfl, r2⟩
  ·intro i c' s' a' _ _ hk; cases hk
  ·intro c' s' a' hat' hs' hk
   rw [hv, hb] at hs'
   obtain ⟨v, r1, r2⟩ := finish_sound (fn := fn) ok hg hat' hk (Sub.fr hfr hs') hp.flat (Sub.par hpar hs')
   exact ⟨hat'.df, v, r1, v, rfl, r2⟩
def FnOk (Pg : Program) (f : Nat) (F : Fn) : Prop := (∃ fn, Pg.funcs[f]? = some fn ∧ fn.body = some F.body ∧ fn.results.toList = F.rv ∧ F.nt ≤ fn.ntmps ∧ fn.name ≠ "runtime.NumGoroutine") ∨ ∃ s, F.body = .refuse s
theorem table_sound {ty : Nat → TyI} {eqs : Nat → Bool} {fs : Nat → Fn} {ext : (f : Nat) → Option (TupT (fs f).sig.ins → Option (TupT (fs f).sig.outs))} {rounds : Nat} (ok : ∀ t, tyOk Pg t (ty t) = true) (okE : ∀ t, eqs t = true → eqOk Pg t (ty t) = true) (hmix : Pg.follows .mixedOrders = true)
  (hsig : ∀ f, ∀ r ∈ (fs f).sig.rs, 0 < r.2.length) (hfn : ∀ f, ext f = none → FnOk Pg f (fs f)) (hext : ∀ f law, ext f = some law → Contract Pg (fs f).sig f law) : ∀ (d f : Nat), Contract Pg (fs f).sig f (table ty eqs fs ext rounds d f)
 | 0, f => fun args out h => by cases h
 | d + 1, f => by
  intro args out h
  have ih := table_sound ok okE hmix hsig hfn hext d (rounds := rounds)
  simp only [table] at h
  cases he : ext f with
  | some law =>
   rw [he] at h
   exact hext f law he args out h
  | none =>
   rw [he] at h
   simp only at h
   rcases hfn f he with ⟨fn, h1, h2, h3, h4, h5⟩ | ⟨s, hs⟩
   ·rw [← h3] at h
    exact run_sound (cx := ⟨(fs f).nt, ty, eqs, fun g => (fs g).sig, table ty eqs fs ext rounds d, (fs f).hint, (fs f).join, rounds, needV 0 (fs f).sig.ps, needB 0 (fs f).sig.ps⟩) ok okE (call_ok ih hsig) hsig hmix (hsig f) rfl rfl h1 h2 h5 h4 args out h
   ·rw [hs] at h
    unfold run at h
    split at h
    ·cases h
    ·cases h
end Go.PV

namespace Go.PV
variable {Pg : Program}
def spaceB : ByteArray := ⟨#[32]⟩
def splitL (a : ByteArray) : List ByteArray := Lib.splitB spaceB 0 (Lib.countB a spaceB) a
def splitLaw (a : ByteArray × ByteArray) : Option (List ByteArray) := if a.2 = spaceB ∧ a.1.size < 4294967281 then some (splitL a.1) else none
def splitSig : Sig := ⟨[.val false [⟨.str, 0, 0, false⟩], .val false [⟨.str, 0, 0, false⟩]], [(.one, [(.row (.one .str), 1)])]⟩
theorem two_in {w : World} {a b : PC} : ∀ {vs us : List Value}, Flat w [.val false [a], .val false [b]] vs us → ∃ v1 v2, vs = [v1, v2] ∧ us = [v1, v2]
 | [], us, h => absurd h (by simp [Flat])
 | [v], us, h => by
  obtain ⟨u1, u2, _, _, _, h⟩ := h
  exact absurd h (by simp [Flat])
 | v :: v2 :: v3 :: vs, us, h => by
  obtain ⟨u1, u2, _, _, _, u3, u4, _, _, _, h⟩ := h
  exact absurd h (by simp [Flat])
 | [v, v2], us, h => by
  obtain ⟨u1, u2, e1, _, h1, u3, u4, e2, _, h2, h3⟩ := h
  have h1 : u1 = [v] := h1
  have h2 : u3 = [v2] := h2
  have h3 : u4 = [] := h3
  subst h1 h2 h3 e2 e1
  exact ⟨v, v2, rfl, rfl⟩
theorem two_out {w : World} {a b : PC} {v1 v2 : Value} : Flat w [.val false [a], .val false [b]] [v1, v2] [v1, v2] := ⟨[v1], [v2], rfl, rfl, rfl, [v2], [], rfl, rfl, rfl, rfl⟩
theorem split_contract {f : Nat} {E : TypeId} (hf : ∃ fn code, Pg.funcs[f]? = some fn ∧ fn.body = some code ∧ fn.name ≠ "runtime.NumGoroutine")
  (h : ∀ (s : ByteArray) (w : World), s.size < 4294967281 → Calls Pg f #[.string s, .string spaceB] w fun e w' => e = .returned (.slice (some ⟨w.heap.size, 0, none⟩) (splitL s).length (splitL s).length) ∧ w' = w.alloc (.cells ((splitL s).map Value.string).toArray E)) :
  Contract Pg splitSig f splitLaw := by
 intro args out ho
 refine ⟨hf, fun w Z F vs us hp => ?_⟩
 obtain ⟨v1, v2, rfl, rfl⟩ := two_in hp.flat
 obtain ⟨s, t⟩ := args
 unfold splitLaw at ho
 split at ho
 rotate_left
 ·cases ho
 rename_i hb
 obtain ⟨h1, h2⟩ := hb
 simp only at h1 h2
 subst h1
 obtain rfl := Option.some.inj ho
 obtain ⟨xs, hx, hE⟩ := hp.ent
 obtain rfl := Option.some.inj hx
 have e1 : v1 = .string s := (hE 0 _ _ _ rfl rfl rfl).2.1
 have e2 : v2 = .string spaceB := (hE 1 _ _ _ rfl rfl rfl).2.1
 subst e1 e2
 refine (h s w h2).mono fun e w' ⟨he, hw⟩ => ⟨_, he, fun b => if b = w.heap.size then some (.det 0) else none, Z, [.string s, .string spaceB], ?_⟩
 subst hw
 have sz : (w.alloc (.cells ((splitL s).map Value.string).toArray E)).heap.size = w.heap.size + 1 := Array.size_push _
 refine { env := ⟨rfl, rfl, rfl⟩, size := ?_, same := ?_, flat := two_out (w := w.alloc (.cells ((splitL s).map Value.string).toArray E)), z := fun b h => h, z' := fun b h => .inl h, zo := ?_, zs := ?_, os := ?_, back := ?_, det := ?_, res := ?_ }
 ·show _ ≤ (w.alloc (.cells ((splitL s).map Value.string).toArray E)).heap.size
  omega
 ·intro b hb _
  simp only [World.alloc]
  rw [Array.getElem?_push_lt hb, Array.getElem?_eq_getElem hb]
 ·intro b hz
  have := hp.zs b hz
  rw [if_neg (by omega)]
 ·intro b hz
  have := hp.zs b hz
  show _ < (w.alloc (.cells ((splitL s).map Value.string).toArray E)).heap.size
  omega
 ·intro b k hk
  by_cases c : b = w.heap.size
  ·refine ⟨?_, .inr (by omega)⟩
   show _ < (w.alloc (.cells ((splitL s).map Value.string).toArray E)).heap.size
   omega
  ·rw [if_neg c] at hk; cases hk
 ·refine ⟨[none, none], rfl, ?_⟩
  intro k e y u u' g1 g2 g3 g4
  match k, g1, g2 with
  | 0, g1, g2 => cases g1; cases g2; trivial
  | 1, g1, g2 => cases g1; cases g2; trivial
  | k + 2, g1, g2 => simp at g2
 ·intro b k hk
  by_cases c : b = w.heap.size
  ·rw [if_pos c] at hk; cases hk; decide
  ·rw [if_neg c] at hk; cases hk
 ·refine ⟨[_], ⟨_, [], [_], (List.append_nil _).symm, ⟨rfl, ?_, trivial⟩, ?_, rfl, trivial⟩, rfl⟩
  ·refine ⟨some ⟨w.heap.size, 0, none⟩, (splitL s).length, ?_, ?_, .inr ⟨w.heap.size, ((splitL s).map Value.string).toArray, E, (0, 0), fun _ => nil', rfl, ?_, ?_, ?_, ?_, ?_, ?_, ?_⟩⟩
   ·rfl
   ·exact Nat.le_refl _
   ·show (w.alloc (.cells ((splitL s).map Value.string).toArray E)).heap[w.heap.size]? = _
    exact Array.getElem?_push_size
   ·simp [SS.size]
   ·intro i _ hi; exact absurd hi.2 (Nat.not_lt_zero _)
   ·intro i hi
    refine ⟨.string ((splitL s)[i]'hi), ?_, rfl, rfl⟩
    show (w.alloc (.cells ((splitL s).map Value.string).toArray E)).cell? ⟨w.heap.size, i * 1, none⟩ = _
    rw [World.cell?_alloc_new]
    simp [hi]
   ·funext b
    refine propext ⟨fun hb => ?_, fun hb => ?_⟩
    ·by_cases c : b = w.heap.size
     ·exact .inl c
     ·simp only [c, if_false] at hb; cases hb
    ·rcases hb with hb | ⟨i, _, hb⟩
     ·simp [hb]
     ·exact absurd hb (by simp [nil'])
   ·intro i _ hh; exact absurd hh (by simp [nil'])
   ·intro i j _ _ _ b hh; exact absurd hh (by simp [nil'])
  ·intro b k' _ hk hh
   by_cases c : b = w.heap.size
   ·simp only [if_pos c] at hh
    cases hh
   ·simp only [if_neg c] at hh; cases hh
end Go.PV

namespace Go.PV
open Go.Deep Go.RowKit
variable {P : Program}
mutual
def okV : (s : S) → s.T → Prop
 | .int k, n => k.min ≤ (n : Int) ∧ (n : Int) ≤ k.max
 | .bool, _ => True
 | .str, s => ByteArray.size s ≤ 140737488351232
 | .row cs, l => List.length l * cs.size ≤ 140737488351232 ∧ ∀ x ∈ (l : List cs.T), okC cs x
def okC : (cs : SS) → cs.T → Prop
 | .one s, x => okV s x
 | .cons s cs, x => okV s x.1 ∧ okC cs x.2
end
def SS.cells : SS → List S
 | .one s => [s]
 | .cons s cs => s :: cs.cells
theorem SS.cells_len : ∀ cs : SS, cs.cells.length = cs.size
 | .one _ => rfl
 | .cons _ cs => by simp [SS.cells, SS.size, SS.cells_len cs]
mutual
def opOk (P : Program) : Nat → TypeId → List S → Bool
 | 0, _, _ => false
 | n + 1, t, l => decide (P.cellsOf t = l.length) && match P.underlying t, l with
  | some (.int k), [.int k'] => decide (k = k')
  | some .bool, [.bool] => true
  | some .string, [.str] => true
  | some (.slice e), [.row cs] => decide (P.cellsOf e ≤ P.bytesOf e) && opOk P n e cs.cells
  | some (.struct fs), l => opF P n fs.toList 0 l
  | _, _ => false
def opF (P : Program) : Nat → List Field → Nat → List S → Bool
 | 0, _, _, _ => false
 | n + 1, [], _, l => l.isEmpty
 | n + 1, f :: fs, off, l => decide (f.offset = off) && opOk P n f.type (l.take (P.cellsOf f.type)) && opF P n fs (off + P.cellsOf f.type) (l.drop (P.cellsOf f.type))
end
def Cells0 (w : World) : List CV → List Value → Prop
 | [], [] => True
 | x :: xs, v :: vs => Rep w (fun b => b < w.heap.size) x.s 0 x.x v nil' ∧ Cells0 w xs vs
 | _, _ => False
theorem Cells0.append {w : World} : ∀ {xs ys : List CV} {us vs : List Value}, Cells0 w xs us → Cells0 w ys vs → Cells0 w (xs ++ ys) (us ++ vs)
 | [], _, [], _, _, h => h
 | _ :: _, _, _ :: _, _, h, h' => ⟨h.1, Cells0.append h.2 h'⟩
theorem Cells0.len {w : World} : ∀ {xs : List CV} {us : List Value}, Cells0 w xs us → us.length = xs.length
 | [], [], _ => rfl
 | _ :: _, _ :: _, h => by simp [Cells0.len h.2]
theorem cells_elem {w : World} {b : Nat} : ∀ {cs : SS} {xs : List CV} {us : List Value} {o : Nat}, xs.map (·.s) = cs.cells → Cells0 w xs us → (∀ x ∈ xs, okV x.s x.x) → (∀ (i : Nat) u, us[i]? = some u → w.cell? ⟨b, o + i, none⟩ = some u) →
  ∃ y : cs.T, RepC w (fun b => b < w.heap.size) cs 0 y b o nil' ∧ okC cs y
 | .one s, [x], [u], o, hs, hc, hk, hu => by
  simp only [List.map_cons, List.map_nil, SS.cells, List.cons.injEq, and_true] at hs
  subst hs
  refine ⟨x.x, ?_, hk x (by simp)⟩
  simp only [RepC]
  exact ⟨u, hu 0 u rfl, hc.1⟩
 | .cons s cs, x :: xs, u :: us, o, hs, hc, hk, hu => by
  simp only [List.map_cons, SS.cells, List.cons.injEq] at hs
  obtain ⟨rfl, hs⟩ := hs
  obtain ⟨y, h1, h2⟩ := cells_elem (b := b) (o := o + 1) hs hc.2 (fun z hz => hk z (by simp [hz])) fun i v hv => by
   have := hu (i + 1) v (by simpa using hv)
   rwa [show o + (i + 1) = o + 1 + i by omega] at this
  refine ⟨(x.x, y), ?_, hk x (by simp), h2⟩
  simp only [RepC]
  exact ⟨u, nil', nil', hu 0 u rfl, hc.1, h1, by funext b'; simp, fun _ h => h.elim⟩
 | .one _, [], _, _, hs, _, _, _ => by simp [SS.cells] at hs
 | .one _, _ :: _ :: _, _, _, hs, _, _, _ => by simp [SS.cells] at hs
 | .one _, [_], [], _, _, hc, _, _ => hc.elim
 | .one _, [_], _ :: _ :: _, _, _, hc, _, _ => by cases hc.2
 | .cons _ _, [], _, _, hs, _, _, _ => by simp [SS.cells] at hs
 | .cons _ _, _ :: _, [], _, _, hc, _, _ => hc.elim
theorem list_choose {α : Type} {p : Nat → α → Prop} : ∀ {n : Nat}, (∀ i, i < n → ∃ x, p i x) → ∃ l : List α, l.length = n ∧ ∀ i x, l[i]? = some x → p i x
 | 0, _ => ⟨[], rfl, fun i x hx => by simp at hx⟩
 | n + 1, h => by
  obtain ⟨l, hl, hp⟩ := list_choose (p := p) (n := n) fun i hi => h i (by omega)
  obtain ⟨x, hx⟩ := h n (by omega)
  refine ⟨l ++ [x], by simp [hl], fun i y hy => ?_⟩
  rcases Nat.lt_or_ge i l.length with hi | hi
  ·rw [List.getElem?_append_left hi] at hy
   exact hp i y hy
  ·rw [List.getElem?_append_right hi] at hy
   have : i - l.length = 0 := by
    rcases Nat.eq_zero_or_pos (i - l.length) with h0 | h0
    ·exact h0
    ·rw [List.getElem?_eq_none (by simp; omega)] at hy; cases hy
   rw [this] at hy
   simp only [List.getElem?_cons_zero, Option.some.injEq] at hy
   subst hy
   have e : i = n := by omega
   subst e
   exact hx
theorem weightsAll_mem {H : Type} {e : TypeId} {d : DataW H} : ∀ {l : List (DataW H)}, d ∈ l → ∀ n ∈ d.weights P e, n ∈ DataW.weightsAll P e l
 | x :: r, hd, n, hn => by
  simp only [DataW.weightsAll, List.mem_append]
  rcases List.mem_cons.1 hd with rfl | hd
  ·exact .inl hn
  ·exact .inr (weightsAll_mem hd n hn)
theorem cell_block {w : World} {a : Addr} {u : Value} (h : w.cell? a = some u) : a.spot = none ∧ a.block < w.heap.size := by
 unfold World.cell? at h
 split at h
 ·rename_i c _ _ hb
  refine ⟨?_, (Array.getElem?_eq_some_iff.1 hb).1⟩
  cases hs : a.spot with
  | none => rfl
  | some s => rw [hs] at h; cases h
 ·cases h
section
variable {H : Type} {enc : TypeId × Value → H} {w : World} {base : Nat} {spare : Nat → Bool} {held : Bool}
mutual
theorem open_ok : ∀ {n : Nat} {t : TypeId} {l : List S} {fuel : Nat} {cs : List Value} {x : DataW H × List MemPlace}, opOk P n t l = true → DataW.trod enc P w base spare held fuel t cs = some x → (∀ k ∈ x.1.weights P t, k ≤ reachBytes) →
  ∃ xs : List CV, xs.map (·.s) = l ∧ Cells0 w xs cs ∧ ∀ y ∈ xs, okV y.s y.x
 | 0, _, _, _, _, _, h, _, _ => by cases h
 | n + 1, t, l, fuel, cs, x, h, hx, hz => by
  unfold opOk at h
  simp only [Bool.and_eq_true, decide_eq_true_eq] at h
  obtain ⟨hsz, h⟩ := h
  cases fuel with
  | zero => simp [DataW.trod] at hx
  | succ fuel =>
   split at h
   ·rename_i k k' ht
    have := of_decide_eq_true h
    subst this
    unfold DataW.trod at hx
    rw [ht] at hx
    split at hx
    all_goals first | (exfalso; simp_all; done) | skip
    rename_i k1 k2 n h1
    injection h1 with h1
    injection h1 with h1
    subst h1
    split at hx
    ·rename_i hw
     obtain ⟨rfl, hw⟩ := hw
     refine ⟨[⟨.int k2, n⟩], rfl, ⟨⟨rfl, rfl⟩, trivial⟩, fun y hy => ?_⟩
     simp only [List.mem_singleton] at hy
     subst hy
     simpa [okV, Lit.wf] using hw
    ·cases hx
   ·rename_i ht
    unfold DataW.trod at hx
    rw [ht] at hx
    split at hx
    all_goals first | (exfalso; simp_all; done) | skip
    rename_i b _
    exact ⟨[⟨.bool, b⟩], rfl, ⟨⟨rfl, rfl⟩, trivial⟩, fun y hy => by simp only [List.mem_singleton] at hy; subst hy; trivial⟩
   ·rename_i ht
    unfold DataW.trod at hx
    rw [ht] at hx
    split at hx
    all_goals first | (exfalso; simp_all; done) | skip
    rename_i s _
    split at hx
    ·obtain rfl := Option.some.inj hx
     refine ⟨[⟨.str, s⟩], rfl, ⟨⟨rfl, rfl⟩, trivial⟩, fun y hy => ?_⟩
     simp only [List.mem_singleton] at hy
     subst hy
     have := hz _ (by simp only [DataW.weights, List.mem_singleton]; rfl)
     simpa [okV, reachBytes] using this
    ·cases hx
   ·rename_i e cs' ht
    simp only [Bool.and_eq_true, decide_eq_true_eq] at h
    obtain ⟨hb, he⟩ := h
    have hce : P.cellsOf e = cs'.size := by
     cases n with
     | zero => cases he
     | succ n => unfold opOk at he; simp only [Bool.and_eq_true, decide_eq_true_eq] at he; rw [he.1, SS.cells_len]
    rcases open_slice ht hx with ⟨rfl, rfl⟩ | ⟨a, len, cap, m, fl, D, Pl, rfl, hba, hl, hm, hmm, rfl, hel⟩
    ·refine ⟨[⟨.row cs', ([] : List cs'.T)⟩], rfl, ⟨?_, trivial⟩, fun y hy => ?_⟩
     ·simp only [Rep]
      exact ⟨none, 0, rfl, Nat.le_refl _, trivial, fun i hi => absurd hi (Nat.not_lt_zero _)⟩
     ·simp only [List.mem_singleton] at hy
      subst hy
      simp [okV]
    ·have hlm : len ≤ m := by rw [hmm]; split <;> omega
     have hpos : ∀ us : List Value, us.length = P.cellsOf e → 0 < us.length := fun us h => by rw [h, hce]; exact SS.size_pos cs'
     have hsp : 0 < len → a.spot = none ∧ a.block < w.heap.size := fun h0 => by
      obtain ⟨us, hus, _⟩ := hel 0 (by omega)
      obtain ⟨_, hcl, hcc⟩ := World.cells?_some hus
      have h1 := hcc 0 (by rw [← hcl]; exact hpos us hcl)
      rw [List.getElem?_eq_getElem (hpos us hcl), Nat.zero_mul] at h1
      have e0 : (a.add 0).add 0 = a := by simp [Addr.add]
      rw [e0] at h1
      exact cell_block h1
     obtain ⟨l, hll, hlp⟩ := list_choose (n := len) (p := fun i (y : cs'.T) => a.spot = none ∧ a.block < w.heap.size ∧ RepC w (fun b => b < w.heap.size) cs' 0 y a.block (a.off + i * cs'.size) nil' ∧ okC cs' y) fun i hi => by
      obtain ⟨us, hus, ht'⟩ := hel i (by omega)
      obtain ⟨xs, h1, h2, h3⟩ := open_ok he ht' (fun k hk => hz k (by
       simp only [DataW.weights, ht, List.mem_cons, List.mem_append]
       exact .inr (.inl (weightsAll_mem (List.mem_map.2 ⟨i, List.mem_range.2 hi, rfl⟩) k hk))))
      obtain ⟨_, hcl, hcc⟩ := World.cells?_some hus
      obtain ⟨sp, sb⟩ := hsp (by omega)
      obtain ⟨y, y1, y2⟩ := cells_elem (b := a.block) (o := a.off + i * cs'.size) h1 h2 h3 fun j u hu => by
       have hj : j < P.cellsOf e := by rw [← hcl]; exact (List.getElem?_eq_some_iff.1 hu).1
       have := hcc j hj
       rw [hu, hce] at this
       cases a with
       | mk b o s =>
        simp only at sp
        subst sp
        rw [add_none, add_none] at this
        exact this
      exact ⟨y, sp, sb, y1, y2⟩
     have hw := hz ((((List.range len).map D).length + ((List.range (m - len)).map fun j => D (len + j)).length) * P.bytesOf e) (by simp [DataW.weights, ht])
     have hw2 : (((List.range len).map D).length + ((List.range (m - len)).map fun j => D (len + j)).length) = m := by simp; omega
     rw [hw2] at hw
     have hlb : len * cs'.size ≤ 140737488351232 := by
      rw [← hce]
      refine Nat.le_trans (Nat.mul_le_mul hlm hb) ?_
      simpa [reachBytes] using hw
     subst hll
     refine ⟨[⟨.row cs', l⟩], rfl, ⟨?_, trivial⟩, fun y hy => ?_⟩
     ·simp only [Rep]
      refine ⟨some a, cap, rfl, hl, trivial, fun i hi => ?_⟩
      obtain ⟨h1, h2, h3, _⟩ := hlp i l[i] (by simp [hi])
      exact ⟨a, rfl, h1, h2, h3⟩
     ·simp only [List.mem_singleton] at hy
      subst hy
      refine ⟨hlb, fun x hx => ?_⟩
      obtain ⟨i, hi⟩ := List.getElem?_of_mem hx
      exact (hlp i x hi).2.2.2
   ·rename_i fs ht
    unfold DataW.trod at hx
    rw [ht] at hx
    simp only at hx
    split at hx
    ·rename_i hl
     rw [Option.map_eq_some_iff] at hx
     obtain ⟨ys, hys, rfl⟩ := hx
     obtain ⟨xs, h1, h2, h3⟩ := open_f h hys (fun k hk => hz k (by simp only [DataW.weights, ht]; exact hk)) (by omega)
     rw [List.drop_zero] at h2
     exact ⟨xs, h1, h2, h3⟩
    ·cases hx
   ·cases h
theorem open_f : ∀ {n : Nat} {fs : List Field} {off : Nat} {l : List S} {fuel : Nat} {cs : List Value} {xs : List (DataW H × List MemPlace)}, opF P n fs off l = true →
  (fs.mapM fun f => DataW.trod enc P w base spare held fuel f.type ((cs.drop f.offset).take (P.cellsOf f.type))) = some xs → (∀ k ∈ DataW.weightsEach P (fs.map (·.type)) (xs.map (·.1)), k ≤ reachBytes) → cs.length = off + l.length →
  ∃ ys : List CV, ys.map (·.s) = l ∧ Cells0 w ys (cs.drop off) ∧ ∀ y ∈ ys, okV y.s y.x
 | 0, _, _, _, _, _, _, h, _, _, _ => by cases h
 | n + 1, [], off, l, fuel, cs, xs, h, hx, hz, hl => by
  unfold opF at h
  obtain rfl : l = [] := by simpa using h
  refine ⟨[], rfl, ?_, fun y hy => by simp at hy⟩
  have : cs.drop off = [] := List.drop_eq_nil_of_le (by simp at hl; omega)
  rw [this]
  trivial
 | n + 1, f :: fs, off, l, fuel, cs, xs, h, hx, hz, hl => by
  unfold opF at h
  simp only [Bool.and_eq_true, decide_eq_true_eq] at h
  obtain ⟨⟨ho, h1⟩, h2⟩ := h
  simp only [List.mapM_cons, Option.bind_eq_bind, Option.pure_def, Option.bind_eq_some_iff, Option.some.injEq] at hx
  obtain ⟨y, hy, ys, hys, rfl⟩ := hx
  obtain ⟨z1, a1, a2, a3⟩ := open_ok h1 hy (fun k hk => hz k (by simp only [List.map_cons, DataW.weightsEach, List.mem_append]; exact .inl hk))
  have hlen : P.cellsOf f.type ≤ l.length := by
   cases n with
   | zero => cases h1
   | succ n => unfold opOk at h1; simp only [Bool.and_eq_true, decide_eq_true_eq, List.length_take] at h1; omega
  obtain ⟨z2, b1, b2, b3⟩ := open_f h2 hys (fun k hk => hz k (by simp only [List.map_cons, DataW.weightsEach, List.mem_append]; exact .inr hk)) (by rw [List.length_drop]; omega)
  rw [ho] at a2
  refine ⟨z1 ++ z2, by rw [List.map_append, a1, b1, List.take_append_drop], ?_, fun x hx => ?_⟩
  ·have := a2.append b2
   rwa [← List.drop_drop, List.take_append_drop] at this
  ·simp only [List.mem_append] at hx
   exact hx.elim (a3 x) (b3 x)
end
end
theorem tup_of : ∀ {l : List S} {xs : List CV}, xs.map (·.s) = l → ∃ a : TupT l, ofTup l a = xs
 | [], [], _ => ⟨(), rfl⟩
 | [], _ :: _, h => by cases h
 | [_], [x], h => by
  simp only [List.map_cons, List.map_nil, List.cons.injEq, and_true] at h
  subst h
  exact ⟨x.x, rfl⟩
 | _ :: t :: l, x :: xs, h => by
  simp only [List.map_cons, List.cons.injEq] at h
  obtain ⟨rfl, h⟩ := h
  obtain ⟨a, ha⟩ := tup_of (l := t :: l) h
  exact ⟨(x.x, a), by simp only [ofTup, ha]⟩
 | [_], [], h | [_], _ :: _ :: _, h | _ :: _ :: _, [], h => by simp at h
section
variable {H : Type} {enc : TypeId × Value → H} {w : World} {base : Nat} {spare : Nat → Bool} {held : Bool}
def parOk (P : Program) (n : Nat) (t : TypeId) : Par → Bool
 | .val g pcs => opOk P n t (pcs.map (·.s)) && pcs.all (fun pc => Nat.beq pc.d 0) && (match P.underlying t with | some (.struct _) => g | some (.array _ _) => false | _ => !g)
 | .ptr _ => false
def parsOk (P : Program) (n : Nat) : List TypeId → List Par → Bool
 | [], [] => true
 | t :: ts, p :: ps => parOk P n t p && parsOk P n ts ps
 | _, _ => false
theorem open_slot {n : Nat} {t : TypeId} {l : List S} {g : Bool} {base' : Nat} {v : Value} (h : opOk P n t l = true) (hg : (match P.underlying t with | some (.struct _) => g | some (.array _ _) => false | _ => !g) = true)
  (hv : Value.okWide P w .any base' t v) : slotV g v v.cells.toList := by
 unfold Value.okWide at hv
 cases n with
 | zero => cases h
 | succ n =>
  unfold opOk at h
  simp only [Bool.and_eq_true] at h
  obtain ⟨-, h⟩ := h
  split at h
  case h_6 => cases h
  case h_5 fs ht =>
   rw [ht] at hg hv
   obtain rfl : g = true := hg
   obtain ⟨cs, rfl, _⟩ := hv
   simp [slotV, Value.cells]
  all_goals
   rename_i ht
   rw [ht] at hg hv
   simp only [Bool.not_eq_true'] at hg
   subst hg
   unfold Cell.okWide at hv
   rw [ht] at hv
   cases v <;> first | rfl | (exfalso; simp [Cell.ok, ht] at hv)
theorem open_args {n : Nat} {base' : Nat} : ∀ {ts : List TypeId} {ps : List Par} {vs : List Value} {ds : List (DataW H)} {q : List MemPlace}, parsOk P n ts ps = true → DataW.TrodAll enc P w base spare held ts vs ds q → (∀ k ∈ DataW.weightsEach P ts ds, k ≤ reachBytes) →
  (∀ (j : Nat) t v, ts[j]? = some t → vs[j]? = some v → Value.okWide P w .any base' t v) →
  ∃ us xs, Flat w ps vs us ∧ xs.map (·.s) = (ps.flatMap Par.pcs).map (·.s) ∧ Cells0 w xs us ∧ (∀ y ∈ xs, okV y.s y.x) ∧ ∀ e ∈ ents ps, ∃ pc, e = .val pc ∧ pc.d = 0
 | [], [], [], _, _, _, _, _, _ => ⟨[], [], rfl, rfl, trivial, fun y hy => by simp at hy, fun e he => by simp [ents] at he⟩
 | [], _ :: _, _, _, _, h, _, _, _ => by cases h
 | _ :: _, [], _, _, _, h, _, _, _ => by cases h
 | [], [], _ :: _, _, _, _, h, _, _ => by cases h
 | _ :: _, _ :: _, [], _, _, _, h, _, _ => by cases h
 | _ :: _, _ :: _, _ :: _, [], _, _, h, _, _ => by cases h
 | _ :: _, .ptr _ :: _, _ :: _, _ :: _, _, h, _, _, _ => by cases h
 | t :: ts, .val g pcs :: ps, v :: vs, d :: ds, q, h, ht, hz, hv => by
  simp only [parsOk, parOk, Bool.and_eq_true] at h
  obtain ⟨⟨⟨h1, h2⟩, h3⟩, h4⟩ := h
  obtain ⟨p1, q1, ⟨fuel, k1⟩, k2, rfl⟩ := ht
  obtain ⟨x1, a1, a2, a3⟩ := open_ok h1 k1 fun k hk => hz k (by simp only [DataW.weightsEach, List.mem_append]; exact .inl hk)
  obtain ⟨us, x2, b1, b2, b3, b4, b5⟩ := open_args h4 k2 (fun k hk => hz k (by simp only [DataW.weightsEach, List.mem_append]; exact .inr hk)) fun j t v ht hvj => hv (j + 1) t v (by simpa using ht) (by simpa using hvj)
  have hl : v.cells.toList.length = pcs.length := by
   rw [Cells0.len a2]
   have := congrArg List.length a1
   simpa using this
  refine ⟨v.cells.toList ++ us, x1 ++ x2, ⟨_, _, rfl, hl, open_slot h1 h3 (hv 0 t v rfl rfl), b1⟩, ?_, a2.append b3, fun y hy => ?_, fun e he => ?_⟩
  ·rw [List.map_append, a1, b2, List.flatMap_cons, List.map_append]; rfl
  ·simp only [List.mem_append] at hy; exact hy.elim (a3 y) (b4 y)
  ·simp only [ents, List.mem_append, List.mem_map] at he
   rcases he with ⟨pc, hpc, rfl⟩ | he
   ·exact ⟨pc, rfl, Nat.eq_of_beq_eq_true (List.all_eq_true.1 h2 pc hpc)⟩
   ·exact b5 e he
end
theorem pad_some : ∀ {es : List Ent} {l : List CV}, (∀ e ∈ es, ∃ pc, e = .val pc ∧ pc.d = 0) → l.length = es.length → pad es l = some (l.map some)
 | [], [], _, _ => rfl
 | [], _ :: _, _, h => by cases h
 | _ :: _, [], _, h => by cases h
 | e :: es, c :: l, he, h => by
  obtain ⟨pc, rfl, _⟩ := he e (by simp)
  simp only [pad, pad_some (fun e h => he e (by simp [h])) (Nat.succ.inj h), Option.map_some, List.map_cons]
theorem Cells0.at {w : World} : ∀ {xs : List CV} {us : List Value}, Cells0 w xs us → ∀ (k : Nat) x u, xs[k]? = some x → us[k]? = some u → Rep w (fun b => b < w.heap.size) x.s 0 x.x u nil'
 | _ :: _, _ :: _, h, 0, x, u, hx, hu => by
  simp only [List.getElem?_cons_zero, Option.some.injEq] at hx hu
  subst hx
  subst hu
  exact h.1
 | _ :: _, _ :: _, h, k + 1, x, u, hx, hu => Cells0.at h.2 k x u (by simpa using hx) (by simpa using hu)
 | [], [], _, _, _, _, hx, _ => by simp at hx
theorem law_calls {g : Sig} {f : Nat} {law : TupT g.ins → Option (TupT g.outs)} (hc : Contract P g f law) (hrs : g.rs = [(.one, [(.bool, 0)])]) {H : Type} {enc : TypeId × Value → H} {w : World} {base base' n : Nat} {spare : Nat → Bool} {held : Bool} {ts : List TypeId} {vs : List Value} {ds : List (DataW H)} {q : List MemPlace}
  (hp : parsOk P n ts g.ps = true) (ht : DataW.TrodAll enc P w base spare held ts vs ds q) (hz : ∀ k ∈ DataW.weightsEach P ts ds, k ≤ reachBytes) (hv : ∀ (j : Nat) t v, ts[j]? = some t → vs[j]? = some v → Value.okWide P w .any base' t v)
  (pure : ∀ args : TupT g.ins, (∀ x ∈ ofTup g.ins args, okV x.s x.x) → ∃ out, law args = some out ∧ (ofTup g.outs out).take 1 = [⟨.bool, true⟩]) :
  Calls P f vs.toArray w fun e w' => e = .returned (.bool true) ∧ Below w.heap.size w w' := by
 obtain ⟨us, xs, h1, h2, h3, h4, h5⟩ := open_args hp ht hz hv
 obtain ⟨args, ha⟩ := tup_of (l := g.ins) h2
 obtain ⟨out, ho, ht⟩ := pure args (by rw [ha]; exact h4)
 obtain ⟨_, k⟩ := hc args out ho
 have hel : (ents g.ps).length = xs.length := by
  have e := congrArg List.length h2
  simp only [List.length_map] at e
  rw [e]
  have key : ∀ ps : List Par, (∀ e ∈ ents ps, ∃ pc, e = .val pc ∧ pc.d = 0) → (ents ps).length = (ps.flatMap Par.pcs).length := by
   intro ps
   induction ps with
   | nil => intro _; rfl
   | cons p ps ih =>
    intro he
    cases p with
    | val a l =>
     have := ih fun e h => he e (by simp [ents, h])
     simp [ents, Par.pcs, this]
    | ptr l =>
     obtain ⟨pc, h, _⟩ := he (.box l.length) (by simp [ents])
     cases h
  exact key g.ps h5
 have hsh : ∀ (j : Nat) pc x, (ents g.ps)[j]? = some (.val pc) → xs[j]? = some x → x.s = pc.s := by
  have key : ∀ (ps : List Par) (ys : List CV), (∀ e ∈ ents ps, ∃ pc, e = .val pc ∧ pc.d = 0) → ys.map (·.s) = (ps.flatMap Par.pcs).map (·.s) → ∀ (j : Nat) pc x, (ents ps)[j]? = some (.val pc) → ys[j]? = some x → x.s = pc.s := by
   intro ps ys he hm j pc x hj hx
   have e : ents ps = (ps.flatMap Par.pcs).map .val := by
    clear hm hj hx
    induction ps with
    | nil => rfl
    | cons p ps ih =>
     cases p with
     | val a l =>
      have := ih fun e h => he e (by simp [ents, h])
      simp [ents, Par.pcs, this]
     | ptr l =>
      obtain ⟨pc, h, _⟩ := he (.box l.length) (by simp [ents])
      cases h
   rw [e, List.getElem?_map] at hj
   have h1 := congrArg (fun l => l[j]?) hm
   simp only [List.getElem?_map, hx] at h1
   cases hp : (ps.flatMap Par.pcs)[j]? with
   | none => rw [hp] at hj; cases hj
   | some pc' =>
    rw [hp] at hj h1
    simp only [Option.map_some, Option.some.injEq, Ent.val.injEq] at hj h1
    rw [h1, hj]
  exact key g.ps xs h5 h2
 refine (k w (fun b => b < w.heap.size) (fun _ => nil') vs us ⟨h1, ⟨xs.map some, by rw [ha]; exact pad_some h5 hel.symm, fun k e x u he hx hu => ?_⟩, fun _ _ _ h => h.elim, fun _ _ h => h.elim, fun _ h => h, fun _ _ _ h => h⟩).mono fun e w' ⟨v, he, O, Z', us', post⟩ => ?_
 ·obtain ⟨pc, rfl, hd⟩ := h5 e (List.mem_of_getElem? he)
  rw [List.getElem?_map] at hx
  cases hxk : xs[k]? with
  | none => rw [hxk] at hx; cases hx
  | some y =>
   rw [hxk] at hx
   obtain rfl := Option.some.inj hx
   refine ⟨hsh k pc y he hxk, ?_⟩
   rw [hd]
   exact h3.at k y u hxk hu
 ·obtain ⟨rv, hr, rfl⟩ := post.res
  refine ⟨?_, ⟨post.env.1, post.env.2.1, post.env.2.2, post.size, fun b hb => post.same b hb fun i h => h⟩⟩
  have hl : g.res.length = 1 := by simp [Sig.res, hrs]
  rw [hrs, hl, ht] at hr
  cases rv with
  | nil => exact hr.elim
  | cons v rv =>
   obtain ⟨c1, c2, us, e1, e2, _, e3, e4⟩ := hr
   cases c1 with
   | nil => cases us <;> exact e2.elim
   | cons c c1 =>
    simp only [List.cons_append, List.cons.injEq] at e1
    obtain ⟨rfl, e1⟩ := e1
    cases us with
    | nil => exact e2.elim
    | cons u us =>
     simp only at e3
     simp only [List.cons.injEq] at e3
     obtain ⟨rfl, rfl⟩ := e3
     have hb : u = .bool true := by have := e2.2.1; simp only [Rep] at this; exact this.1
     have hc2 : c2 = [] := by
      have := congrArg List.length e1
      simp at this
      exact List.eq_nil_of_length_eq_zero (by omega)
     subst hc2
     cases rv with
     | nil => rw [he, hb]; rfl
     | cons _ _ => exact e4.elim
end Go.PV

namespace Go.PV
structure Kc (R : Type) where
 K : St → Option R
 E : Nat → St → Option R
 T : St → Option R
section
variable {R : Type} (cx : Cx)
def walk : Code → List Nat → Nat → Kc R → List (LS → Option R) → Code × Nat × Kc R
 | c, [], n, k, _ => (c, n, k)
 | .seq a b, i :: p, n, k, Ls => match i with
  | 0 => walk a p n ⟨(match cx.join (headId b) with
   | none => fun s => exec cx b n s k.K k.E k.T
   | some h => fun s => match normK cx h s with | some x => exec cx b n (unnorm h x) k.K k.E k.T | none => none), k.E, k.T⟩ Ls
  | _ => walk b p n k Ls
 | .cond _ a b, i :: p, n, k, Ls => match i with
  | 0 => walk a p n k Ls
  | _ => walk b p n k Ls
 | .block id a, _ :: p, _, k, Ls => walk a p id ⟨k.K, fun i s => bif Nat.beq i id then k.K s else k.E i s, k.T⟩ Ls
 | .loop a, _ :: p, n, k, Ls => match Ls with
  | L :: Ls => walk a p n ⟨fun s => match normK cx (cx.hint n) s with | some y => L y | none => none, k.E, k.T⟩ Ls
  | [] => (.skip, 0, k)
 | _, _, _, k, _ => (.skip, 0, k)
def stp (body : Code) (path : List Nat) (Ls : List (LS → Option R)) (fin : St → Option R) (x : LS) (L : LS → Option R) : Option R :=
 match walk cx body path 0 ⟨fin, fun _ _ => none, fin⟩ Ls with
 | (.loop a, n, k) => exec cx a n (unnorm (cx.hint n) x) (fun s => match normK cx (cx.hint n) s with | some y => L y | none => none) k.E k.T
 | _ => none
end
def iter {A R : Type} (s : (A → Option R) → A → Option R) : Nat → A → Option R
 | 0, _ => none
 | k + 1, a => s (iter s k) a
theorem loop_iter {A R : Type} (ls : A → LS) (st : LS → (LS → Option R) → Option R) (s : (A → Option R) → A → Option R)
  (h : ∀ L a, st (ls a) L = s (fun a => L (ls a)) a) : ∀ k a, loopK st k (ls a) = iter s k a
 | 0, _ => rfl
 | k + 1, a => by
  have ih : (fun a => loopK st k (ls a)) = iter s k := funext (loop_iter ls st s h k)
  simp only [loopK, iter]
  rw [h, ih]
end Go.PV

namespace Go.PV.T
def rnds : Nat := 18446744073709551616
theorem rnds_gt {n : Nat} (h : n ≤ 4611686018427387904) : n < rnds := Nat.lt_of_le_of_lt h (by decide)
attribute [irreducible] rnds
variable {α β : Type}
def Tells (x : Option α) (P : α → Prop) : Prop := ∃ r, x = some r ∧ P r
theorem Tells.mono {x : Option α} {P Q : α → Prop} (h : Tells x P) (k : ∀ r, P r → Q r) : Tells x Q := ⟨h.choose, h.choose_spec.1, k _ h.choose_spec.2⟩
theorem tl {a : α} {P : α → Prop} (h : P a) : Tells (some a) P := ⟨a, rfl, h⟩
theorem tb {x : Option α} {f : α → Option β} {P : α → Prop} {Q : β → Prop} (h : Tells x P) (k : ∀ a, P a → Tells (f a) Q) : Tells (Option.bind x f) Q := by
 obtain ⟨a, rfl, ha⟩ := h
 exact k a ha
theorem tc {x : Option α} {a : α} {f : α → Option β} {Q : β → Prop} (e : x = some a) (k : Tells (f a) Q) : Tells (Option.bind x f) Q := by rw [e]; exact k
theorem tif {c : Prop} [Decidable c] {a b : Option α} {Q : α → Prop} (h1 : c → Tells a Q) (h2 : ¬ c → Tells b Q) : Tells (bif decide c then a else b) Q := by
 by_cases h : c
 ·rw [decide_eq_true h]; exact h1 h
 ·rw [decide_eq_false h]; exact h2 h
theorem tp {c : Prop} [Decidable c] {a b : Option α} {Q : α → Prop} (h : c) (k : Tells a Q) : Tells (bif decide c then a else b) Q := tif (fun _ => k) fun n => absurd h n
theorem tn {c : Prop} [Decidable c] {a b : Option α} {Q : α → Prop} (h : ¬ c) (k : Tells b Q) : Tells (bif decide c then a else b) Q := tif (fun n => absurd n h) fun _ => k
theorem tbif {c : Bool} {a b : Option α} {Q : α → Prop} (h1 : c = true → Tells a Q) (h2 : c = false → Tells b Q) : Tells (bif c then a else b) Q := by
 cases c
 ·exact h2 rfl
 ·exact h1 rfl
theorem tt {c : Bool} {a b : Option α} {Q : α → Prop} (h : c = true) (k : Tells a Q) : Tells (bif c then a else b) Q := by subst h; exact k
theorem tf {c : Bool} {a b : Option α} {Q : α → Prop} (h : c = false) (k : Tells b Q) : Tells (bif c then a else b) Q := by subst h; exact k
theorem inr {i n : Nat} (h : i < n) : (decide ((0 : Int) ≤ (i : Int)) && decide ((i : Int) < (n : Int))) = true := by
 rw [decide_eq_true (by omega), decide_eq_true (by omega)]; rfl
theorem ti {i n : Nat} {a b : Option α} {Q : α → Prop} (h : i < n) (k : Tells a Q) : Tells (bif decide ((0 : Int) ≤ (i : Int)) && decide ((i : Int) < (n : Int)) then a else b) Q := tt (inr h) k
theorem wrap_id {x : Int} (h0 : -9223372036854775808 ≤ x) (h1 : x ≤ 9223372036854775807) : IntKind.wrap IntKind.i64 x = x := by
 rw [IntKind.wrap_i64]; omega
theorem wrap_succ {i : Nat} (h : i < 9223372036854775807) : IntKind.wrap IntKind.i64 ((i : Int) + 1) = ((i + 1 : Nat) : Int) := by
 rw [wrap_id (by omega) (by omega)]; omega
theorem getD_at {l : List α} {i : Nat} {x z : α} (h : l[i]? = some x) : List.getD l (Int.toNat (i : Int)) z = x := by
 rw [Int.toNat_natCast, List.getD_eq_getElem?_getD, h]; rfl
theorem getD_in {l : List α} {i : Nat} {z : α} (h : i < l.length) : List.getD l (Int.toNat (i : Int)) z = l[i] := getD_at (by simp [h])
theorem loopQ {A R σ : Type} (s : (A → Option R) → A → Option R) (n : Nat) (mk : σ → Int → A) (I : σ → Nat → Prop) (Q : σ → Nat → R → Prop)
  (base : ∀ L st, I st n → Tells (s L (mk st (n : Int))) (Q st n))
  (step : ∀ L st i, I st i → i < n → (∀ st', I st' (i + 1) → Tells (L (mk st' ((i + 1 : Nat) : Int))) (Q st' (i + 1))) → Tells (s L (mk st (i : Int))) (Q st i)) :
  ∀ (k i : Nat) (st : σ), i ≤ n → n - i < k → I st i → Tells (iter s k (mk st (i : Int))) (Q st i)
 | 0, _, _, _, h, _ => absurd h (Nat.not_lt_zero _)
 | k + 1, i, st, hi, hk, h => by
  simp only [iter]
  by_cases hn : i = n
  ·subst hn; exact base _ st h
  ·exact step _ st i h (by omega) fun st' h' => loopQ s n mk I Q base step k (i + 1) st' (by omega) (by omega) h'
theorem loop0 {A R σ : Type} (s : (A → Option R) → A → Option R) (n : Nat) (mk : σ → Int → A) (I : σ → Nat → Prop) (Q : σ → Nat → R → Prop) (st : σ) (hn : n ≤ 4611686018427387904) (h0 : I st 0)
  (base : ∀ L st, I st n → Tells (s L (mk st (n : Int))) (Q st n))
  (step : ∀ L st i, I st i → i < n → (∀ st', I st' (i + 1) → Tells (L (mk st' ((i + 1 : Nat) : Int))) (Q st' (i + 1))) → Tells (s L (mk st (i : Int))) (Q st i)) :
  Tells (iter s rnds (mk st (0 : Int))) (Q st 0) := loopQ s n mk I Q base step rnds 0 st (Nat.zero_le _) (rnds_gt (by omega)) h0
theorem Tells.eq {x : Option α} {a : α} (h : Tells x (· = a)) : x = some a := by obtain ⟨r, e, rfl⟩ := h; exact e
theorem loopE {A R : Type} (s : (A → Option R) → A → Option R) (n : Nat) (mk : Int → A) (Q : Nat → R → Prop) (hn : n ≤ 4611686018427387904)
  (base : ∀ L, Tells (s L (mk (n : Int))) (Q n))
  (step : ∀ L i, i < n → Tells (L (mk ((i + 1 : Nat) : Int))) (Q (i + 1)) → Tells (s L (mk (i : Int))) (Q i)) :
  Tells (iter s rnds (mk (0 : Int))) (Q 0) := loop0 (σ := Unit) s n (fun _ => mk) (fun _ _ => True) (fun _ => Q) () hn trivial (fun L _ _ => base L) fun L _ i _ hi ih => step L i hi (ih () trivial)
theorem drop_at {l : List α} {i : Nat} (h : i < l.length) : l.drop i = l[i] :: l.drop (i + 1) := List.drop_eq_getElem_cons h
theorem dep {m d : Nat} (h : m + 1 ≤ d) : ∃ d', d = d' + 1 ∧ m ≤ d' := ⟨d - 1, by omega, by omega⟩
def wSum (w : β → Nat) (l : List β) : Nat := (l.map w).sum
theorem wSum_cons {w : β → Nat} {x : β} {l : List β} : wSum w (x :: l) = w x + wSum w l := rfl
def MkL (w : β → Nat) (M : Int → β → Prop) : Int → List β → Prop
 | _, [] => True
 | n, x :: r => M n x ∧ MkL w M (n + w x) r
theorem MkL.at {w : β → Nat} {M : Int → β → Prop} : ∀ {l : List β} {n : Int}, MkL w M n l → ∀ (i : Nat) (h : i < l.length), M (n + wSum w (l.take i)) l[i]
 | y :: l, n, h, 0, hi => by simpa [wSum] using h.1
 | y :: l, n, h, i + 1, hi => by
  have := MkL.at h.2 i (by simpa using hi)
  rw [List.take_succ_cons, wSum_cons]
  simpa [Int.add_assoc] using this
theorem loopApp {A R α β : Type} (s : (A → Option R) → A → Option R) (l : List α) (f : α → β) (mk : List β → Int → A) (P : R → Prop) (hl : l.length ≤ 140737488355328)
  (base : ∀ L, Tells (s L (mk (l.map f) (l.length : Int))) P)
  (step : ∀ L st (i : Nat) Q (hi : i < l.length), st.length = i → Tells (L (mk (st ++ [f l[i]]) ((i + 1 : Nat) : Int))) Q → Tells (s L (mk st (i : Int))) Q) :
  Tells (iter s rnds (mk [] 0)) P := by
 refine loop0 (σ := List β) s l.length mk (fun st i => st = (l.take i).map f) (fun _ _ => P) [] (by omega) rfl ?_ ?_
 ·rintro L st rfl
  rw [List.take_length]
  exact base L
 ·rintro L st i rfl hi ih
  refine step L _ i _ hi (by simp; omega) (ih _ ?_)
  rw [List.take_add_one, List.map_append, List.getElem?_eq_getElem hi]
  rfl
end Go.PV.T
