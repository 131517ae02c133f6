import Derived.Test.YtipehkeabnfngaaDoorZDSWWords
import Derived.SizedLaws
import Derived.Deep.Slices
import Derived.DataReads
namespace Go.Proofs.YtipehkeabnfngaaDoor.Opens
open Go.ChangeShapes Go.WideShapes Go.RowKit Go.Deep Go.Proofs.YtipehkeabnfngaaDoorW.PrintWords
def Opens {α : Type} (P : Program) (t : TypeId) (d : Kd α) (V : α → Prop) : Prop :=
  d.sz = P.cellsOf t ∧ ∀ (H : Type) (enc : TypeId × Value → H) (w : World) (base : Nat) (spare : Nat → Bool) (held : Bool) (fuel : Nat) (cs : List Value) (x : DataW H × List MemPlace),
    DataW.trod enc P w base spare held fuel t cs = some x → (∀ n ∈ x.1.weights P t, n ≤ reachBytes) → ∃ a, d.K w a cs ∧ V a
theorem wf_i64 {n : Int} (h : (Lit.int .i64 n).wf = true) : -9223372036854775808 ≤ n ∧ n ≤ 9223372036854775807 := by
  have h1 : IntKind.i64.min = -9223372036854775808 := by decide
  have h2 : IntKind.i64.max = 9223372036854775807 := by decide
  simpa [Lit.wf, h1, h2] using h
theorem opens_int {P : Program} {t : TypeId} {k : IntKind} {V : Int → Prop} (ht : P.underlying t = some (.int k)) (hc : P.cellsOf t = 1) (hV : ∀ n, (Lit.int k n).wf = true → V n) : Opens P t (Kd.int k) V := by
  refine ⟨hc.symm, ?_⟩
  intro H enc w base spare held fuel cs x h _
  cases fuel with
  | zero => simp [DataW.trod] at h
  | succ m =>
    unfold DataW.trod at h
    rw [ht] at h
    split at h
    all_goals first | (exfalso; simp_all; done) | skip
    all_goals simp_all
    rename_i a b
    obtain ⟨⟨rfl, hw⟩, rfl⟩ := h
    exact ⟨_, rfl, hV _ hw⟩
theorem opens_i64 {P : Program} {t : TypeId} (ht : P.underlying t = some (.int .i64)) (hc : P.cellsOf t = 1) : Opens P t (Kd.int .i64) (fun n => -9223372036854775808 ≤ n ∧ n ≤ 9223372036854775807) := opens_int ht hc fun _ => wf_i64
theorem opens_bool {P : Program} {t : TypeId} (ht : P.underlying t = some .bool) (hc : P.cellsOf t = 1) : Opens P t Kd.bool (fun _ => True) := by
  refine ⟨hc.symm, ?_⟩
  intro H enc w base spare held fuel cs x h _
  cases fuel with
  | zero => simp [DataW.trod] at h
  | succ m =>
    unfold DataW.trod at h
    rw [ht] at h
    split at h
    all_goals first | (exfalso; simp_all; done) | skip
    all_goals exact ⟨_, rfl, trivial⟩
theorem opens_string {P : Program} {t : TypeId} (ht : P.underlying t = some .string) (hc : P.cellsOf t = 1) : Opens P t Kd.string (fun s => s.size ≤ 140737488351232) := by
  refine ⟨hc.symm, ?_⟩
  intro H enc w base spare held fuel cs x h hz
  cases fuel with
  | zero => simp [DataW.trod] at h
  | succ m =>
    unfold DataW.trod at h
    rw [ht] at h
    split at h
    all_goals first | (exfalso; simp_all; done) | skip
    all_goals simp_all
    obtain ⟨_, rfl⟩ := h
    refine ⟨_, rfl, ?_⟩
    have := hz _ (by simp only [DataW.weights, List.mem_singleton]; rfl)
    simpa [reachBytes] using this
theorem weightsAll_mem {H : Type} {P : Program} {e : TypeId} {d : DataW H} : ∀ {l : List (DataW H)}, d ∈ l → ∀ n ∈ d.weights P e, n ∈ DataW.weightsAll P e l
  | x :: r, hd, n, hn => by
    simp only [DataW.weightsAll, List.mem_append]
    rcases List.mem_cons.1 hd with rfl | hd
    · exact Or.inl hn
    · exact Or.inr (weightsAll_mem hd n hn)
theorem list_of_lt {α : Type} {n : Nat} {p : Nat → α → Prop} (h : ∀ i, i < n → ∃ x, p i x) : ∃ l : List α, l.length = n ∧ ∀ i x, l[i]? = some x → p i x := by
  induction n with
  | zero => exact ⟨[], rfl, fun i x hx => by simp at hx⟩
  | succ n ih =>
    obtain ⟨l, hl, hp⟩ := ih (fun i hi => h i (by omega))
    obtain ⟨x, hx⟩ := h n (by omega)
    refine ⟨l ++ [x], by simp [hl], fun i y hy => ?_⟩
    rcases Nat.lt_or_ge i l.length with hi | hi
    · rw [List.getElem?_append_left hi] at hy
      exact hp i y hy
    · rw [List.getElem?_append_right hi] at hy
      have : i - l.length = 0 := by
        rcases Nat.eq_zero_or_pos (i - l.length) with h0 | h0
        · exact h0
        · rw [List.getElem?_eq_none (by simp; omega)] at hy; cases hy
      rw [this] at hy
      simp only [List.getElem?_cons_zero, Option.some.injEq] at hy
      subst hy
      have e : i = n := by omega
      subst e
      exact hx
theorem opens_slice {α : Type} {P : Program} {t e : TypeId} {d : Kd α} {V : α → Prop} (ht : P.underlying t = some (.slice e)) (hc : P.cellsOf t = 1) {B : Nat} (hB : P.bytesOf e = B) (h : Opens P e d V) :
    Opens P t (Kd.slice e d) (fun l => l.length * B ≤ 140737488351232 ∧ ∀ x ∈ l, V x) := by
  refine ⟨hc.symm, ?_⟩
  intro H enc w base spare held fuel cs x hx hz
  obtain ⟨hsz, hop⟩ := h
  rcases open_slice ht hx with ⟨rfl, rfl⟩ | ⟨a, len, cap, m, n, D, Pl, rfl, hb, hl, hm, hmm, rfl, hel⟩
  · exact ⟨[], ⟨none, 0, rfl, Nat.le_refl _, ⟨rfl, Nat.zero_le _, fun h => absurd h (Nat.lt_irrefl 0)⟩⟩, by simp, by simp⟩
  · have hlm : len ≤ m := by rw [hmm]; split <;> omega
    obtain ⟨l, hll, hlp⟩ := list_of_lt (n := len) (p := fun i x => ∃ c, w.cells? base (a.add (i * P.cellsOf e)) (P.cellsOf e) = some c ∧ d.K w x c ∧ V x) (fun i hi => by
      obtain ⟨cs', hcs', ht'⟩ := hel i (by omega)
      obtain ⟨y, hk, hv⟩ := hop H enc w base spare held n cs' _ ht' (fun k hk => hz k (by
        simp only [DataW.weights, ht, List.mem_cons, List.mem_append]
        exact Or.inr (Or.inl (weightsAll_mem (List.mem_map.2 ⟨i, List.mem_range.2 hi, rfl⟩) k hk))))
      exact ⟨y, cs', hcs', hk, hv⟩)
    have hw := hz ((((List.range len).map D).length + ((List.range (m - len)).map fun j => D (len + j)).length) * P.bytesOf e) (by simp [DataW.weights, ht])
    have hw2 : (((List.range len).map D).length + ((List.range (m - len)).map fun j => D (len + j)).length) = m := by simp; omega
    rw [hw2, hB] at hw
    have hlb : len * B ≤ 140737488351232 := Nat.le_trans (Nat.mul_le_mul_right _ hlm) (by simpa [reachBytes] using hw)
    subst hll
    refine ⟨l, ⟨some a, cap, rfl, hl, ⟨rfl, by unfold maxLen at hm; omega, fun _ => ⟨a, rfl, fun j p hp => ?_⟩⟩⟩, hlb, fun x hx => ?_⟩
    · obtain ⟨c, hc1, hk, _⟩ := hlp j p hp
      obtain ⟨_, hcl, hcc⟩ := World.cells?_some hc1
      refine ⟨c, by rw [hcl, hsz], hk, fun i u hu => ?_⟩
      have hi : i < P.cellsOf e := by
        rw [← hcl]
        exact (List.getElem?_eq_some_iff.1 hu).1
      rw [hsz, ← Go.Deep.add_add, hcc i hi]
      exact hu
    · obtain ⟨i, hi⟩ := List.getElem?_of_mem hx
      obtain ⟨_, _, _, hv⟩ := hlp i x hi
      exact hv
def OpensF {α : Type} (P : Program) (fs : List Field) (off : Nat) (d : Kd α) (V : α → Prop) : Prop :=
  ∀ (H : Type) (enc : TypeId × Value → H) (w : World) (base : Nat) (spare : Nat → Bool) (held : Bool) (fuel : Nat) (cs : List Value) (xs : List (DataW H × List MemPlace)),
    (fs.mapM fun f => DataW.trod enc P w base spare held fuel f.type ((cs.drop f.offset).take (P.cellsOf f.type))) = some xs →
    (∀ n ∈ DataW.weightsEach P (fs.map (·.type)) (xs.map (·.1)), n ≤ reachBytes) → ∃ a, d.K w a ((cs.drop off).take d.sz) ∧ V a
theorem opensF_one {α : Type} {P : Program} {f : Field} {off : Nat} {d : Kd α} {V : α → Prop} (ho : f.offset = off) (h : Opens P f.type d V) : OpensF P [f] off d V := by
  intro H enc w base spare held fuel cs xs hx hz
  simp only [List.mapM_cons, List.mapM_nil, Option.bind_eq_bind, Option.pure_def, Option.bind_eq_some_iff, Option.some.injEq] at hx
  obtain ⟨y, hy, _, rfl, rfl⟩ := hx
  rw [h.1, ← ho]
  exact h.2 H enc w base spare held fuel _ y hy (fun n hn => hz n (by simp [DataW.weightsEach]; exact hn))
theorem opensF_cons {α β : Type} {P : Program} {f : Field} {fs : List Field} {off : Nat} {d : Kd α} {d' : Kd β} {V : α → Prop} {V' : β → Prop} (ho : f.offset = off) (h : Opens P f.type d V) (h' : OpensF P fs (off + d.sz) d' V') :
    OpensF P (f :: fs) off (Kd.pair d d') (fun x => V x.1 ∧ V' x.2) := by
  intro H enc w base spare held fuel cs xs hx hz
  simp only [List.mapM_cons, Option.bind_eq_bind, Option.pure_def, Option.bind_eq_some_iff, Option.some.injEq] at hx
  obtain ⟨y, hy, ys, hys, rfl⟩ := hx
  obtain ⟨a, ha, va⟩ := h.2 H enc w base spare held fuel _ y hy (fun n hn => hz n (by simp only [List.map_cons, DataW.weightsEach, List.mem_append]; exact Or.inl hn))
  obtain ⟨b, hb, vb⟩ := h' H enc w base spare held fuel cs ys hys (fun n hn => hz n (by simp only [List.map_cons, DataW.weightsEach, List.mem_append]; exact Or.inr hn))
  refine ⟨(a, b), ⟨_, _, ?_, ha, hb⟩, va, vb⟩
  rw [← h.1, ho]
  show (cs.drop off).take (d.sz + d'.sz) = _
  rw [List.take_add, List.drop_drop]
theorem opens_struct {α : Type} {P : Program} {t : TypeId} {fs : Array Field} {d : Kd α} {V : α → Prop} (ht : P.underlying t = some (.struct fs)) (hc : d.sz = P.cellsOf t) (h : OpensF P fs.toList 0 d V) : Opens P t d V := by
  refine ⟨hc, ?_⟩
  intro H enc w base spare held fuel cs x hx hz
  cases fuel with
  | zero => simp [DataW.trod] at hx
  | succ m =>
    unfold DataW.trod at hx
    rw [ht] at hx
    simp only at hx
    split at hx
    · rename_i hl
      rw [Option.map_eq_some_iff] at hx
      obtain ⟨xs, hxs, rfl⟩ := hx
      obtain ⟨a, ha, va⟩ := h H enc w base spare held m cs xs hxs (fun n hn => hz n (by simp only [DataW.weights, ht]; exact hn))
      rw [List.drop_zero, hc, ← hl, List.take_length] at ha
      exact ⟨a, ha, va⟩
    · cases hx
theorem opens_iso {α β : Type} {P : Program} {t : TypeId} {d : Kd α} {V : α → Prop} {V' : β → Prop} (f : β → α) (g : α → β) (hf : ∀ a, f (g a) = a) (hV : ∀ b, V (f b) → V' b) (h : Opens P t d V) : Opens P t (Kd.iso d f) V' := by
  refine ⟨h.1, ?_⟩
  intro H enc w base spare held fuel cs x hx hz
  obtain ⟨a, ha, va⟩ := h.2 H enc w base spare held fuel cs x hx hz
  refine ⟨g a, ?_, hV _ (by rw [hf]; exact va)⟩
  show d.K w (f (g a)) cs
  rw [hf]
  exact ha
theorem opens_arg {H : Type} {enc : TypeId × Value → H} {α : Type} {P : Program} {W : World} {base : Nat} {sp : Nat → Bool} {held : Bool} {t : TypeId} {v : Value} {dd : DataW H} {ps : List MemPlace} {ts : List TypeId} {ds : List (DataW H)} {j : Nat} {d : Kd α} {V : α → Prop} (h : Opens P t d V)
    (hsz : (DataW.weightsEach P ts ds).all (· ≤ reachBytes) = true) (ht : ts[j]? = some t) (hd : ds[j]? = some dd) (hT : DataW.Trod enc P W base sp held t v dd ps) : ∃ a, d.K W a v.cells.toList ∧ V a := by
  obtain ⟨fuel, hf⟩ := hT
  exact h.2 H enc W base sp held fuel _ _ hf (fun n hn => by
    have := List.all_eq_true.1 hsz _ (DataW.weights_mem_each ht hd n hn)
    simpa using this)
end Go.Proofs.YtipehkeabnfngaaDoor.Opens
