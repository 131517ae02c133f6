/- An interpreter over lists and numbers, and that the program does what it does (part C). No condition beyond those in each statement. -/
import Derived.Test.YtipehkeabnfngaaDoorPvLibB
import Derived.LoopN
set_option linter.unusedVariables false
set_option linter.unusedSimpArgs false
/- A region whose order is drawn: what goes through in the text's order goes through in every order, and ends alike. -/
namespace Go.PV
variable {R : Type} {cx : Cx}
/-! ### whom an operation waits for -/
theorem after_bit {look : Nat → Nat} {i : Nat} : ∀ {l : List Edge} {s0 : Nat}, (l.foldl (fun s e => if Region.binds .any e then s ||| 2 ^ e.on ||| look e.on else s) s0).testBit i = true →
    s0.testBit i = true ∨ ∃ e ∈ l, Region.binds .any e = true ∧ (e.on = i ∨ (look e.on).testBit i = true)
  | [], _, h => .inl h
  | e :: l, s0, h => by
    rw [List.foldl_cons] at h
    rcases after_bit h with h | ⟨e', he, h1, h2⟩
    · by_cases hb : Region.binds .any e = true
      · rw [if_pos hb, Nat.testBit_or, Nat.testBit_or, Bool.or_eq_true, Bool.or_eq_true] at h
        rcases h with (h | h) | h
        · exact .inl h
        · rw [Nat.testBit_two_pow] at h
          exact .inr ⟨e, by simp, hb, .inl (by simpa using h)⟩
        · exact .inr ⟨e, by simp, hb, .inr h⟩
      · rw [if_neg hb] at h; exact .inl h
    · exact .inr ⟨e', by simp [he], h1, h2⟩
def befStep (acc : Array Nat) (o : Oper) : Array Nat := acc.push (o.after.foldl (fun s e => if Region.binds .any e then s ||| 2 ^ e.on ||| acc.getD e.on 0 else s) 0)
theorem bef_prefix : ∀ (l : List Oper) (acc : Array Nat), acc.size ≤ (l.foldl befStep acc).size ∧ ∀ j, j < acc.size → (l.foldl befStep acc).getD j 0 = acc.getD j 0
  | [], acc => ⟨Nat.le_refl _, fun _ _ => rfl⟩
  | o :: l, acc => by
    rw [List.foldl_cons]
    obtain ⟨h1, h2⟩ := bef_prefix l (befStep acc o)
    have hs : (befStep acc o).size = acc.size + 1 := by simp [befStep]
    refine ⟨by omega, fun j hj => (h2 j (by omega)).trans ?_⟩
    unfold befStep
    simp only [Array.getD_eq_getD_getElem?, Array.getElem?_push]
    rw [if_neg (by omega)]
theorem bef_bit : ∀ (l : List Oper) (acc : Array Nat) (k : Nat) (o : Oper), l[k]? = some o → ∀ i, ((l.foldl befStep acc).getD (acc.size + k) 0).testBit i = true →
    ∃ e ∈ o.after, Region.binds .any e = true ∧ (e.on = i ∨ ((l.foldl befStep acc).getD e.on 0).testBit i = true)
  | [], _, _, _, h, _, _ => by simp at h
  | o0 :: l, acc, 0, o, h, i, hb => by
    simp only [List.getElem?_cons_zero, Option.some.injEq] at h
    subst h
    rw [List.foldl_cons] at hb ⊢
    obtain ⟨_, h2⟩ := bef_prefix l (befStep acc o0)
    have hs : (befStep acc o0).size = acc.size + 1 := by simp [befStep]
    rw [Nat.add_zero, h2 acc.size (by omega)] at hb
    have hv : (befStep acc o0).getD acc.size 0 = o0.after.foldl (fun s e => if Region.binds .any e then s ||| 2 ^ e.on ||| acc.getD e.on 0 else s) 0 := by
      unfold befStep
      simp [Array.getD_eq_getD_getElem?]
    rw [hv, ← Array.foldl_toList] at hb
    rcases after_bit (look := fun n => acc.getD n 0) hb with hb | ⟨e, he, h3, h4⟩
    · simp at hb
    · refine ⟨e, by simpa using he, h3, h4.imp id fun h5 => ?_⟩
      by_cases hlt : e.on < acc.size
      · rw [h2 e.on (by omega), show (befStep acc o0).getD e.on 0 = acc.getD e.on 0 from ?_]
        · exact h5
        · unfold befStep
          simp only [Array.getD_eq_getD_getElem?, Array.getElem?_push]
          rw [if_neg (by omega)]
      · rw [Array.getD_eq_getD_getElem?, Array.getElem?_eq_none (by omega)] at h5
        simp at h5
  | o0 :: l, acc, k + 1, o, h, i, hb => by
    simp only [List.getElem?_cons_succ] at h
    rw [List.foldl_cons] at hb ⊢
    have hs : (befStep acc o0).size = acc.size + 1 := by simp [befStep]
    refine bef_bit l (befStep acc o0) k o h i ?_
    rw [hs, show acc.size + 1 + k = acc.size + (k + 1) by omega]
    exact hb
theorem before_bit {ops : Array Oper} {j : Nat} {o : Oper} (ho : ops[j]? = some o) {i : Nat} (h : ((Region.before ops).getD j 0).testBit i = true) :
    ∃ e ∈ o.after, Region.binds .any e = true ∧ (e.on = i ∨ ((Region.before ops).getD e.on 0).testBit i = true) := by
  have e : Region.before ops = ops.toList.foldl befStep #[] := by
    unfold Region.before
    rw [← Array.foldl_toList]
    rfl
  rw [e] at h ⊢
  have := bef_bit ops.toList #[] j o (by simpa using ho) i (by simpa using h)
  simpa using this
theorem before_out {ops : Array Oper} {j : Nat} (h : ops[j]? = none) : (Region.before ops).getD j 0 = 0 := by
  have e : Region.before ops = ops.toList.foldl befStep #[] := by
    unfold Region.before
    rw [← Array.foldl_toList]
    rfl
  have hsz : ∀ (l : List Oper) (acc : Array Nat), (l.foldl befStep acc).size = acc.size + l.length := by
    intro l
    induction l with
    | nil => intro acc; rfl
    | cons o l ih => intro acc; rw [List.foldl_cons, ih]; simp [befStep]; omega
  rw [e, Array.getD_eq_getD_getElem?, Array.getElem?_eq_none]
  · rfl
  · rw [hsz]
    have := Array.getElem?_eq_none_iff.1 h
    simpa using this
/-! ### every order -/
def anyS (cx : Cx) (ops : Array Oper) (tab : Nat → List Nat × List Nat) (sE : St) : Nat → Array Bool → St → Prop
  | 0, listed, s => Region.ready .any ops listed = [] ∧ s = sE
  | fuel + 1, listed, s => (Region.ready .any ops listed = [] → s = sE) ∧ ∀ i ∈ Region.ready .any ops listed, ∃ o s', ops[i]? = some o ∧ opS cx ops.toList o s = some s' ∧ lab cx ops.toList o s = tab i ∧ anyS cx ops tab sE fuel (listed.setIfInBounds i true) s'
/-- whom one that is listed waits for is listed -/
def Cl (ops : Array Oper) (listed : Array Bool) : Prop := ∀ j, listed.getD j false = true → ∀ i, ((Region.before ops).getD j 0).testBit i = true → listed.getD i false = true
theorem listed_set {listed : Array Bool} {i j : Nat} (h : (listed.setIfInBounds i true).getD j false = true) : j = i ∨ listed.getD j false = true := by
  by_cases e : i = j
  · exact .inl e.symm
  · rw [Go.getD_set_ne false e] at h; exact .inr h
theorem ready_wait {ops : Array Oper} {listed : Array Bool} (hc : Cl ops listed) {j i : Nat} (hj : j ∈ Region.ready .any ops listed) (hb : ((Region.before ops).getD j 0).testBit i = true) : listed.getD i false = true := by
  obtain ⟨_, o, ho, hall⟩ := mem_ready.1 hj
  obtain ⟨e, he, hbi, h⟩ := before_bit ho hb
  have hl := hall e he hbi
  rcases h with rfl | h
  · exact hl
  · exact hc _ hl i h
theorem Cl.set {ops : Array Oper} {listed : Array Bool} (hc : Cl ops listed) {j : Nat} (hj : j ∈ Region.ready .any ops listed) : Cl ops (listed.setIfInBounds j true) := by
  intro k hk i hb
  refine getD_set_true ?_
  rcases listed_set hk with rfl | hk
  · exact ready_wait hc hj hb
  · exact hc k hk i hb
theorem ready_false {ops : Array Oper} {listed : Array Bool} {j : Nat} (hj : j ∈ Region.ready .any ops listed) : listed.getD j false = false := by
  have h := (mem_ready.1 hj).1
  rcases Nat.lt_or_ge j listed.size with h' | h'
  · simpa [h'] using h
  · simp [Array.getElem?_eq_none h'] at h
theorem anyS_first (hsig : sigsOk cx) {ops : Array Oper} {tab : Nat → List Nat × List Nat} {sE : St} {k : Nat} {ok : Oper} (hk : ops[k]? = some ok)
    (hpair : ∀ j oj, ops[j]? = some oj → k < j → ((Region.before ops).getD j 0).testBit k = false → ok.apart ops oj = true ∧ NC (tab k) (tab j)) :
    ∀ (fuel : Nat) (listed : Array Bool) (s s1 : St), Cl ops listed → (∀ j, j < k → listed.getD j false = true) → k ∈ Region.ready .any ops listed → opS cx ops.toList ok s = some s1 → lab cx ops.toList ok s = tab k →
      anyS cx ops tab sE fuel (listed.setIfInBounds k true) s1 → anyS cx ops tab sE (fuel + 1) listed s := by
  intro fuel
  induction fuel with
  | zero =>
    intro listed s s1 hcl hlow hr hop hlab H
    refine ⟨fun h => (by rw [h] at hr; cases hr), fun i hi => ?_⟩
    by_cases hik : i = k
    · subst hik; exact ⟨ok, s1, hk, hop, hlab, H⟩
    · have := ready_mono hi hik
      rw [H.1] at this
      cases this
  | succ fuel ih =>
    intro listed s s1 hcl hlow hr hop hlab H
    refine ⟨fun h => (by rw [h] at hr; cases hr), fun i hi => ?_⟩
    by_cases hik : i = k
    · subst hik; exact ⟨ok, s1, hk, hop, hlab, H⟩
    · obtain ⟨oi, s2, hoi, h1, h2, h3⟩ := H.2 i (ready_mono hi hik)
      have hlt : k < i := by
        rcases Nat.lt_trichotomy i k with h | h | h
        · have := hlow i h; rw [ready_false hi] at this; cases this
        · exact absurd h hik
        · exact h
      have hbit : ((Region.before ops).getD i 0).testBit k = false := by
        cases hb : ((Region.before ops).getD i 0).testBit k with
        | false => rfl
        | true => have := ready_wait hcl hi hb; rw [ready_false hr] at this; cases this
      obtain ⟨hap, hnc⟩ := hpair i oi hoi hlt hbit
      obtain ⟨s1', g1, g2, g3, g4⟩ := op_commute hsig hop h1 hap (by rw [hlab, h2]; exact hnc)
      refine ⟨oi, s1', hoi, g1, g2.trans h2, ih (listed.setIfInBounds i true) s1' s2 (hcl.set hi) (fun j hj => getD_set_true (hlow j hj)) (ready_mono hr (Ne.symm hik)) g3 (g4.trans hlab) ?_⟩
      rw [Array.setIfInBounds_comm _ _ hik]
      exact h3
/-! ### the text's order -/
def lexR (cx : Cx) (ops : Array Oper) (tab : Nat → List Nat × List Nat) (sE : St) : List Oper → Nat → St → Prop
  | [], _, s => s = sE
  | o :: l, i, s => lexOk o i = true ∧ ∃ s', opS cx ops.toList o s = some s' ∧ lab cx ops.toList o s = tab i ∧ lexR cx ops tab sE l (i + 1) s'
def pairsOk (ops : Array Oper) (tab : Nat → List Nat × List Nat) : Prop := ∀ i j oi oj, ops[i]? = some oi → ops[j]? = some oj → i < j → ((Region.before ops).getD j 0).testBit i = false → oi.apart ops oj = true ∧ NC (tab i) (tab j)
theorem clash_false {ops : Array Oper} {bf : Array Nat} {j : Nat} {tj wj : List Nat} : ∀ {seen : Seen}, clash ops bf j tj wj seen = false → ∀ i ti wi, (i, ti, wi) ∈ seen → Nat.testBit (bf.getD j 0) i = false → ∀ oi oj, ops[i]? = some oi → ops[j]? = some oj → oi.apart ops oj = true ∧ NC (ti, wi) (tj, wj)
  | [], _, _, _, _, h, _, _, _, _, _ => by simp at h
  | (i0, t0, w0) :: l, h, i, ti, wi, hm, hb, oi, oj, h1, h2 => by
    simp only [clash, Bool.or_eq_false_iff] at h
    simp only [List.mem_cons, Prod.mk.injEq] at hm
    rcases hm with ⟨rfl, rfl, rfl⟩ | hm
    · have h := h.1
      rw [hb, h1, h2] at h
      simp only [cond_false, Bool.or_eq_false_iff, Bool.not_eq_false'] at h
      exact ⟨h.2, h.1.1, h.1.2⟩
    · exact clash_false h.2 i ti wi hm hb oi oj h1 h2
theorem lexD (hsig : sigsOk cx) {ops : Array Oper} {K : St → Option R} {r : R} : ∀ (l : List Oper) (i : Nat) (seen : Seen) (s : St) (T : Nat → List Nat × List Nat), (∀ j, l[j]? = ops[i + j]?) → (∀ j, j < i → (j, (T j).1, (T j).2) ∈ seen) →
    opsDK cx ops (Region.before ops) l i seen s K = some r →
    ∃ tab sE, K sE = some r ∧ (∀ j, j < i → tab j = T j) ∧ lexR cx ops tab sE l i s ∧ ∀ a b oa ob, i ≤ b → ops[a]? = some oa → ops[b]? = some ob → a < b → ((Region.before ops).getD b 0).testBit a = false → oa.apart ops ob = true ∧ NC (tab a) (tab b)
  | [], i, seen, s, T, hl, hT, h => ⟨T, s, h, fun _ _ => rfl, rfl, fun a b oa ob hib _ hb _ _ => by
      have := hl (b - i)
      rw [show i + (b - i) = b by omega, hb] at this
      simp at this⟩
  | o :: l, i, seen, s, T, hl, hT, h => by
    have h0 : ops[i]? = some o := by simpa using (hl 0).symm
    simp only [opsDK] at h
    obtain ⟨hlex, h⟩ := cond_n h
    have hlex : lexOk o i = true := by simpa using hlex
    -- the step, and what is behind it
    have key : ∃ s', opS cx ops.toList o s = some s' ∧ clash ops (Region.before ops) i (lab cx ops.toList o s).1 (lab cx ops.toList o s).2 seen = false ∧
        opsDK cx ops (Region.before ops) l (i + 1) ((i, (lab cx ops.toList o s).1, (lab cx ops.toList o s).2) :: seen) s' K = some r := by
      rw [guardK_eq] at h
      unfold opS lab
      split at h
      · rename_i hg
        rw [hg]
        simp only
        obtain ⟨hcl, h⟩ := cond_n h
        obtain ⟨p, o', h1, h2, h3, h4⟩ := stepK_nat hsig h
        exact ⟨_, h3, hcl, h4⟩
      · rename_i hg
        rw [hg]
        simp only
        obtain ⟨hcl, h⟩ := cond_n h
        obtain ⟨hd, h⟩ := cond_n h
        rw [hd]
        exact ⟨_, rfl, hcl, h⟩
      · cases h
    obtain ⟨s', k1, k2, k3⟩ := key
    obtain ⟨tab, sE, e1, e2, e3, e4⟩ := lexD hsig l (i + 1) _ s' (fun j => if j = i then lab cx ops.toList o s else T j) (fun j => by have := hl (j + 1); rw [List.getElem?_cons_succ] at this; rw [this]; congr 1; omega) (fun j hj => by
      by_cases hji : j = i
      · subst hji; simp
      · rw [if_neg hji]; exact List.mem_cons_of_mem _ (hT j (by omega))) k3
    have ti : tab i = lab cx ops.toList o s := by rw [e2 i (by omega), if_pos rfl]
    refine ⟨tab, sE, e1, fun j hj => by rw [e2 j (by omega), if_neg (by omega)], ⟨hlex, s', k1, ti.symm, e3⟩, fun a b oa ob hib ha hb hab hbit => ?_⟩
    rcases Nat.eq_or_lt_of_le hib with rfl | hlt
    · have := clash_false k2 a (T a).1 (T a).2 (hT a hab) hbit oa ob ha hb
      rw [ti, e2 a (by omega), if_neg (by omega)]
      exact this
    · exact e4 a b oa ob hlt ha hb hab hbit
theorem lexOk_of {cx : Cx} {ops : Array Oper} {tab : Nat → List Nat × List Nat} {sE : St} : ∀ {l : List Oper} {i : Nat} {s : St}, (∀ j, l[j]? = ops[i + j]?) → lexR cx ops tab sE l i s → ∀ j o, i ≤ j → ops[j]? = some o → lexOk o j = true
  | [], i, _, hl, _, j, o, hij, ho => by
    have := hl (j - i)
    rw [show i + (j - i) = j by omega, ho] at this
    simp at this
  | o0 :: l, i, s, hl, h, j, o, hij, ho => by
    obtain ⟨h1, s', _, _, h4⟩ := h
    rcases Nat.eq_or_lt_of_le hij with rfl | hlt
    · have : ops[i]? = some o0 := by simpa using (hl 0).symm
      rw [ho] at this
      obtain rfl := Option.some.inj this
      exact h1
    · exact lexOk_of (fun j => by have := hl (j + 1); rw [List.getElem?_cons_succ] at this; rw [this]; congr 1; omega) h4 j o hlt ho
theorem lex_any (hsig : sigsOk cx) {ops : Array Oper} {tab : Nat → List Nat × List Nat} {sE : St} (hp : pairsOk ops tab) (hbits : ∀ j i, ((Region.before ops).getD j 0).testBit i = true → i < j) : ∀ (l : List Oper) (i : Nat) (listed : Array Bool) (s : St), (∀ j, l[j]? = ops[i + j]?) →
    listed.size = ops.size → (∀ j, j < ops.size → listed.getD j false = decide (j < i)) → lexR cx ops tab sE l i s → anyS cx ops tab sE l.length listed s
  | [], i, listed, s, hl, hsz, hli, h => by
    refine ⟨?_, h⟩
    cases hr : Region.ready .any ops listed with
    | nil => rfl
    | cons a t =>
      exfalso
      have ha : a ∈ Region.ready .any ops listed := by rw [hr]; simp
      obtain ⟨_, o, ho, _⟩ := mem_ready.1 ha
      have hlt : a < ops.size := (Array.getElem?_eq_some_iff.1 ho).1
      have := hli a hlt
      rw [ready_false ha] at this
      have hge : ¬ a < i := by simpa using this.symm
      have h2 := hl (a - i)
      rw [show i + (a - i) = a by omega, ho] at h2
      simp at h2
  | o :: l, i, listed, s, hl, hsz, hli, h => by
    have h0 : ops[i]? = some o := by simpa using (hl 0).symm
    have hlt : i < ops.size := (Array.getElem?_eq_some_iff.1 h0).1
    obtain ⟨h1, s', h2, h3, h4⟩ := h
    have hr : i ∈ Region.ready .any ops listed := by
      refine mem_ready.2 ⟨?_, o, h0, fun e he hb => ?_⟩
      · have := hli i hlt
        have hlt' : i < listed.size := by omega
        simpa [hlt'] using this
      · unfold lexOk at h1
        rw [List.all_eq_true] at h1
        have := h1 e (by simpa using he)
        rw [hb] at this
        have hei : e.on < i := by simpa [Nat.blt_eq] using this
        rw [hli e.on (by omega)]
        simpa using hei
    have hcl : Cl ops listed := fun j hj k hb => by
      have hjs : j < ops.size := by
        rcases Nat.lt_or_ge j ops.size with h | h
        · exact h
        · rw [Array.getD_eq_getD_getElem?, Array.getElem?_eq_none (by omega)] at hj; cases hj
      have hji : j < i := by have := hli j hjs; rw [hj] at this; simpa using this.symm
      have hkj := hbits j k hb
      rw [hli k (by omega)]
      simpa using (by omega : k < i)
    refine anyS_first hsig h0 (fun j oj hj hij hb => hp i j o oj h0 hj hij hb) l.length listed s s' hcl (fun j hj => ?_) hr h2 h3 (lex_any hsig hp hbits l (i + 1) (listed.setIfInBounds i true) s' (fun j => by have := hl (j + 1); rw [List.getElem?_cons_succ] at this; rw [this]; congr 1; omega) (by simpa using hsz) (fun j hj => ?_) h4)
    · rw [hli j (by omega)]; simpa using hj
    · by_cases e : i = j
      · subst e
        have hlt' : i < listed.size := by omega
        simp [hlt']
      · rw [Go.getD_set_ne false e, hli j hj]
        simp only [decide_eq_decide]
        omega
/-- **What goes through in the text's order goes through in every order.** -/
theorem draw_any (hsig : sigsOk cx) {ops : Array Oper} {s : St} {K : St → Option R} {r : R} (h : opsDK cx ops (Region.before ops) ops.toList 0 [] s K = some r) :
    ∃ tab sE, K sE = some r ∧ anyS cx ops tab sE ops.size (Array.replicate ops.size false) s := by
  obtain ⟨tab, sE, h1, _, h3, h4⟩ := lexD hsig ops.toList 0 [] s (fun _ => ([], [])) (fun j => by simp) (fun j hj => by omega) h
  have hlex : ∀ j o, ops[j]? = some o → lexOk o j = true := fun j o ho => lexOk_of (fun j => by simp) h3 j o (Nat.zero_le _) ho
  have hbits : ∀ j i, ((Region.before ops).getD j 0).testBit i = true → i < j := by
    intro j
    induction j using Nat.strongRecOn with
    | _ j ih =>
      intro i hb
      cases ho : ops[j]? with
      | none => rw [before_out ho] at hb; simp at hb
      | some o =>
        obtain ⟨e, he, hbi, h⟩ := before_bit ho hb
        have hl := hlex j o ho
        unfold lexOk at hl
        rw [List.all_eq_true] at hl
        have := hl e (by simpa using he)
        rw [hbi] at this
        have hlt : e.on < j := by simpa [Nat.blt_eq] using this
        rcases h with h | h
        · omega
        · have := ih e.on hlt i h; omega
  have := lex_any hsig (fun a b oa ob ha hb hab hbit => h4 a b oa ob (Nat.zero_le _) ha hb hab hbit) hbits ops.toList 0 (Array.replicate ops.size false) s (fun j => by simp) (by simp) (fun j hj => by simp [Array.getD_eq_getD_getElem?, hj]) h3
  rw [Array.length_toList] at this
  exact ⟨tab, sE, h1, this⟩
end Go.PV

/- A state of the interpreter and the machine's; one operation; a region, in whatever order. -/
namespace Go.PV
variable {R : Type} {Pg : Program} {cx : Cx}
structure At (nt : Nat) (c : Cf) (s : St) (a : Act) : Prop where
  inv : c.Inv
  nd : ND c.O
  rt : c.rt = s.rt
  sz : nt ≤ a.tmps.size
  df : a.defers = []
  tm : ∀ t, c.PR (s.tm t) (a.tmps.getD t undef)
theorem PRepA.of1 {rt : Rt} {w : World} {γ : Nat → Value} {Z : Fp} {p : P} {v : Value} (h : PRep1 rt w γ Z p v) : PRepA rt w γ Z p v := by
  cases p <;> first | exact h | exact h.elim
theorem constP_rep {c : Cf} (v : Value) : c.P1 (constP v) v := by
  unfold constP
  split
  · exact ⟨rfl, rfl⟩
  · exact ⟨rfl, rfl⟩
  · exact ⟨rfl, rfl⟩
  · rfl
  · trivial
theorem constA_rep {c : Cf} (v : Value) : c.PR (constA v) v := by
  unfold constA
  split
  · rename_i cs
    refine PR_agg.2 ⟨cs, rfl, by simp, fun i p u hp hu => ?_⟩
    simp only [List.getElem?_map, Array.getElem?_toList, hu, Option.map_some, Option.some.injEq] at hp
    subst hp
    exact constP_rep u
  · exact PRep.of1 (constP_rep v)
theorem At.ev {nt : Nat} {c : Cf} {s : St} {a : Act} (h : At nt c s a) (x : Operand) : c.PR (evP s.tm x) (a.eval x) := by
  cases x with
  | tmp t => exact h.tm t
  | const v => exact constA_rep v
  | _ => exact PRep.of1 (c := c) (p := .dead) trivial
theorem At.evR {nt : Nat} {c : Cf} {s : St} {a : Act} (h : At nt c s a) (o : Oper) (x : Operand) : c.PR (evR o s x) (a.eval x) := by
  unfold PV.evR
  cases pureAt o s with
  | true => exact h.ev x
  | false => have := resP_rep h.inv (h.ev x); rw [h.rt] at this; exact this
theorem PR_dead {c : Cf} {v : Value} : c.PR .dead v := PRep.of1 (c := c) (p := .dead) trivial
theorem At.put {nt : Nat} {c c' : Cf} {s : St} {a : Act} (h : At nt c s a) (t : To c c') (nd : ND c'.O) {dst : Option Tmp} {p : P} {v : Value} (hd : ∀ d, dst = some d → d < nt) (hp : c'.PR p v) {rt : Rt} (hr : c'.rt = rt) :
    At nt c' ⟨updO s.tm dst p, rt⟩ (a.put dst v) := by
  refine ⟨t.inv, nd, hr, ?_, ?_, fun k => ?_⟩
  · cases dst with
    | none => exact h.sz
    | some d => simpa [Act.put] using h.sz
  · cases dst with
    | none => exact h.df
    | some d => exact h.df
  · cases dst with
    | none => exact PR_stab t.stb (h.tm k)
    | some d =>
      simp only [updO, upd, Act.put]
      have hlt : d < a.tmps.size := Nat.lt_of_lt_of_le (hd d rfl) h.sz
      cases hk : Nat.beq k d with
      | true =>
        obtain rfl := Nat.eq_of_beq_eq_true hk
        simp only [cond_true]
        simpa [Array.getD_eq_getD_getElem?, hlt] using hp
      | false =>
        have hne : d ≠ k := fun e => by subst e; rw [← Bool.not_eq_true, Nat.beq_eq] at hk; exact hk rfl
        simp only [cond_false]
        have e : (a.tmps.setIfInBounds d v).getD k undef = a.tmps.getD k undef := by
          simp only [Array.getD_eq_getD_getElem?, Array.getElem?_setIfInBounds_ne hne]
        rw [e]
        exact PR_stab t.stb (h.tm k)
/-- calls of functions: what the law says, the program does -/
def CallOk (Pg : Program) (cx : Cx) : Prop := ∀ (f : Nat) (ps : List P) (vs : Array Value) (dst : Option Nat) (c : Cf) (K : P → Option Rt → Option St) (r : St), c.Inv → ND c.O → ps.length = vs.size →
  (∀ (i : Nat) p v, ps[i]? = some p → vs[i]? = some v → c.PR p v) → callK cx f ps dst c.rt K = some r →
  (∃ fn code, Pg.funcs[f]? = some fn ∧ fn.body = some code ∧ fn.name ≠ "runtime.NumGoroutine") ∧ Calls Pg f vs c.w fun e w' => ∃ v, e = .returned v ∧ Post c r K v w'
theorem call_does {ρ : Operand → Value} {o : Oper} {cl : Call} {f : Nat} {w : World} {post : Value → World → Prop} (ho : o.op = .call cl) (hc : cl.callee = .value (.func f)) (hρ : ρ (.func f) = .func (.func f) #[] #[])
    (hf : ∃ fn code, Pg.funcs[f]? = some fn ∧ fn.body = some code ∧ fn.name ≠ "runtime.NumGoroutine")
    (h : Calls Pg f (cl.args.map ρ) w fun e w' => ∃ v, e = .returned v ∧ post v w') : Does Pg (execOp ρ o) w post := by
  obtain ⟨fn, code, h1, h2, h3⟩ := hf
  have e : (execOp ρ o).run Pg w = .ok (.enter f (cl.args.map ρ)) w := by
    obtain ⟨dst, op, ty, pos, aft, guard⟩ := o
    obtain ⟨callee, args, ats⟩ := cl
    simp only at ho hc
    subst ho
    subst hc
    simp only [execOp, resolve, hρ, Deferred.ofValue, invoke, callFunc]
    simp [go_sem, h1, h2, h3]
  unfold Does
  rw [e]
  exact h
variable (ok : ∀ t, tyOk Pg t (cx.ty t) = true) (okE : ∀ t, cx.eqs t = true → eqOk Pg t (cx.ty t) = true) (hcall : CallOk Pg cx) (hsig : sigsOk cx)
include ok okE hcall hsig
theorem step_sound {o : Oper} {s s' : St} {c : Cf} {a : Act} (hat : At cx.nt c s a) (h : stepK cx o s some = some s') {Kc : Act → World → Prop} {Q : Exit → Act → World → Prop}
    (hK : ∀ c' a', At cx.nt c' s' a' → To c c' → Kc a' c'.w) : o.wp Pg a c.w Kc Q := by
  unfold stepK at h
  obtain ⟨hd, h⟩ := cond_n h
  have hd : dstOk cx o = true := by simpa using hd
  have hdst : ∀ d, o.dst = some d → d < cx.nt := fun d e => by
    unfold dstOk at hd
    rw [e] at hd
    simpa [Nat.blt_eq] using hd
  have h1 : locK cx o (evR o s) s.rt (fun p r => some ⟨updO s.tm o.dst p, r.getD s.rt⟩) = some s' := by
    refine Ag.locK (l := touch cx o s) (a := restr s.rt (touch cx o s)) (b := s.rt) (C := fun x => x = some s') (restr_ag _ _) (fun hm => touch_make hd hm) (fun p hp => hp) (fun p a' b' hab hf hp => ?_) (fun cl f ho hc hs => ?_) h
    · rw [← hp]
      simp only [rtAfter, Option.getD_some]
      rw [hab.merge hf]
    · refine Ag.callK (l := touch cx o s) (a := restr s.rt (touch cx o s)) (b := s.rt) (C := fun x => x = some s') (restr_ag _ _) (fun i hi => touch_call hd ho hc hi) (hsig f) (fun p a' b' hab hf hp => ?_) hs
      rw [← hp]
      simp only [rtAfter, Option.getD_some]
      rw [hab.merge hf]
  have h2 := loc_sound ok okE (o := o) (ev := evR o s) (ρ := a.eval) hat.inv hat.nd (fun x => hat.evR o x) (K := fun p r => some ⟨updO s.tm o.dst p, r.getD s.rt⟩) (r := s') (fun cl f ho hc hs => by
    obtain ⟨hf, hr⟩ := hcall f (cl.args.toList.map (evR o s)) (cl.args.map a.eval) o.dst c _ _ hat.inv hat.nd (by simp) (fun i p v hp hv => by
      simp only [List.getElem?_map, Array.getElem?_toList] at hp
      simp only [Array.getElem?_map] at hv
      cases hx : cl.args[i]? with
      | none => rw [hx] at hp; cases hp
      | some x =>
        rw [hx] at hp hv
        simp only [Option.map_some, Option.some.injEq] at hp hv
        subst hp
        subst hv
        exact hat.evR o x) hs
    exact call_does ho hc rfl hf hr) (by rw [hat.rt]; exact h1)
  have fin : ∀ v w', Post c s' (fun p r => some ⟨updO s.tm o.dst p, r.getD s.rt⟩) v w' → Kc (a.put o.dst v) w' := by
    rintro v w' ⟨p, o', c', k1, k2, k3, k4, k5, k6, k7⟩
    obtain rfl := Option.some.inj k1
    subst k2
    refine hK c' _ (hat.put k5 k6 hdst k7 ?_) k5
    cases o' with
    | none => exact (k4 rfl).trans hat.rt
    | some rt' => exact k3 rt' rfl
  unfold Does at h2
  unfold Oper.wp
  generalize (execOp a.eval o).run Pg c.w = res at h2 ⊢
  cases res with
  | halt x w' => exact h2.elim
  | ok n w' =>
    cases n <;> simp only at h2 <;> simp only [Oper.upon]
    case value v => exact fin v w' h2
    case skip => exact fin _ w' h2
    case enter f args =>
      refine h2.mono fun e w'' he => ?_
      obtain ⟨v, rfl, hv⟩ := he
      exact fin v w'' hv
theorem op_sound {ops : Array Oper} {i : Nat} {o : Oper} {s s' : St} {c : Cf} {a : Act} (hi : ops[i]? = some o) (hat : At cx.nt c s a) (h : opS cx ops.toList o s = some s') {Kc : Act → World → Prop} {Q : Exit → Act → World → Prop}
    (hK : ∀ c' a', At cx.nt c' s' a' → To c c' → Kc a' c'.w) : wpOp Pg ops Q i Kc a c.w := by
  unfold opS at h
  unfold wpOp
  rw [hi]
  simp only
  have hw : ∀ b, guardOn ops.toList o s = some b → Region.wanted o (yielded ops a.tmps) = b := by
    intro b hb
    unfold guardOn at hb
    unfold Region.wanted
    cases hg : o.guard with
    | none => rw [hg] at hb; simpa using hb
    | some q =>
      obtain ⟨j, want⟩ := q
      rw [hg] at hb
      simp only at hb ⊢
      unfold yielded
      have e0 : ops.toList[j]? = ops[j]? := by simp
      rw [e0] at hb
      cases ht : (ops[j]?).bind (·.dst) with
      | none => rw [ht] at hb; cases hb
      | some t =>
        rw [ht] at hb
        simp only [Option.bind_some] at hb ⊢
        have hr := hat.tm t
        split at hb
        · rename_i x hx
          rw [hx] at hr
          obtain ⟨e, _⟩ := (PR_cv.1 hr)
          simp only at e
          have e2 : a.tmps[t]? = some (.bool x) := by
            rw [Array.getD_eq_getD_getElem?] at e
            cases hq : a.tmps[t]? with
            | none => rw [hq] at e; cases e
            | some u => rw [hq] at e; simp only [Option.getD_some] at e; rw [e]
          rw [e2]
          simp only [Option.some.injEq] at hb
          subst hb
          cases x <;> cases want <;> rfl
        · rename_i hx
          rw [hx] at hr
          have e : a.tmps.getD t undef = undefV := hr
          simp only [Option.some.injEq] at hb
          subst hb
          rw [Array.getD_eq_getD_getElem?] at e
          cases hq : a.tmps[t]? with
          | none => rfl
          | some u =>
            rw [hq] at e
            simp only [Option.getD_some] at e
            subst e
            rfl
        · cases hb
  split at h
  · rename_i hg
    rw [if_pos (hw true hg)]
    exact .inl (step_sound ok okE hcall hsig hat h hK)
  · rename_i hg
    rw [if_neg (by rw [hw false hg]; simp)]
    obtain ⟨hd, h⟩ := cond_n h
    obtain rfl := Option.some.inj h
    have hd : dstOk cx o = true := by simpa using hd
    refine hK c _ (hat.put (To.refl hat.inv) hat.nd (fun d e => ?_) (p := .und) (v := undef) rfl hat.rt) (To.refl hat.inv)
    unfold dstOk at hd
    rw [e] at hd
    simpa [Nat.blt_eq] using hd
  · cases h
/-! ### regions -/
theorem ops_sound {ops : Array Oper} {K : St → Option R} {r : R} {Q : Exit → Act → World → Prop} : ∀ (l : List Oper) (i : Nat) (s : St) (c : Cf) (a : Act), (∀ j, l[j]? = ops[i + j]?) → At cx.nt c s a → opsK cx ops.toList l s K = some r →
    (∀ c' s' a', At cx.nt c' s' a' → To c c' → K s' = some r → Q .normal a' c'.w) → wpOps Pg ops Q (List.range' i l.length) a c.w
  | [], i, s, c, a, hl, hat, h, hQ => by
    simp only [List.length_nil, List.range'_zero, wpOps]
    exact hQ c s a hat (To.refl hat.inv) h
  | o :: l, i, s, c, a, hl, hat, h, hQ => by
    have h0 : ops[i]? = some o := by simpa using (hl 0).symm
    simp only [List.length_cons, List.range'_succ, wpOps_cons]
    simp only [opsK] at h
    obtain ⟨s', h1, h2⟩ := opK_nat (K := fun s => opsK cx ops.toList l s K) hsig h
    refine op_sound ok okE hcall hsig h0 hat h1 fun c' a' hat' t => ?_
    exact ops_sound l (i + 1) s' c' a' (fun j => by have := hl (j + 1); rw [List.getElem?_cons_succ] at this; rw [this]; congr 1; omega) hat' h2 fun c2 s2 a2 hat2 t2 hk => hQ c2 s2 a2 hat2 (t.trans t2) hk
theorem any_sound {ops : Array Oper} {tab : Nat → List Nat × List Nat} {sE : St} {Q : Exit → Act → World → Prop} : ∀ (fuel : Nat) (listed : Array Bool) (s : St) (c : Cf) (a : Act), anyS cx ops tab sE fuel listed s → At cx.nt c s a →
    (∀ c' a', At cx.nt c' sE a' → To c c' → Q .normal a' c'.w) → wpAny Pg .any ops Q fuel listed a c.w
  | 0, _, s, c, a, h, hat, hQ => ⟨h.1, by obtain ⟨_, rfl⟩ := h; exact hQ c a hat (To.refl hat.inv)⟩
  | fuel + 1, listed, s, c, a, h, hat, hQ => by
    refine ⟨fun h0 => by obtain rfl := h.1 h0; exact hQ c a hat (To.refl hat.inv), fun i hi => ?_⟩
    obtain ⟨o, s', h1, h2, h3, h4⟩ := h.2 i hi
    exact op_sound ok okE hcall hsig h1 hat h2 fun c' a' hat' t => any_sound fuel _ s' c' a' h4 hat' fun c2 a2 hat2 t2 => hQ c2 a2 hat2 (t.trans t2)
theorem region_sound (hmix : Pg.follows .mixedOrders = true) {id : Nat} {ops : Array Oper} {draw : Bool} {K : St → Option R} {r : R} {Q : Exit → Act → World → Prop} {s : St} {c : Cf} {a : Act} (hat : At cx.nt c s a) (h : regionK cx ops draw s K = some r)
    (hQ : ∀ c' s' a', At cx.nt c' s' a' → To c c' → K s' = some r → Q .normal a' c'.w) : (Code.region id ops draw).wp Pg Q a c.w := by
  unfold regionK at h
  cases draw with
  | false =>
    simp only at h
    refine wp_region ?_
    have := ops_sound ok okE hcall hsig (Q := Q) ops.toList 0 s c a (fun j => by simp) hat h hQ
    rw [Array.length_toList, ← List.range_eq_range'] at this
    exact this
  | true =>
    simp only at h
    obtain ⟨tab, sE, h1, h2⟩ := draw_any hsig h
    refine wp_region_any hmix ?_
    have t := To.world hat.inv (w' := { c.w with drawn := c.w.drawn + 1 }) ⟨Nat.le_refl _, fun _ _ => rfl⟩ (fun _ _ _ => rfl) ⟨rfl, rfl, rfl⟩
    have hat' : At cx.nt { c with w := { c.w with drawn := c.w.drawn + 1 } } s a := ⟨t.inv, hat.nd, hat.rt, hat.sz, hat.df, fun k => PR_stab t.stb (hat.tm k)⟩
    exact any_sound ok okE hcall hsig _ _ s _ a h2 hat' fun c' a' k1 k2 => hQ c' sE a' k1 (t.trans k2) h1
end Go.PV

/- What a function promises, cell by cell; and that a call hands over what it asks for. -/
namespace Go.PV
def slotV (g : Bool) (v : Value) (us : List Value) : Prop := match g with
  | true => v = .agg us.toArray
  | false => us = [v]
/-- arguments, cell by cell: a box's cells behind its address -/
def Flat (w : World) : List Par → List Value → List Value → Prop
  | [], [], us => us = []
  | .val a pcs :: pars, v :: vs, us => ∃ us1 us2, us = us1 ++ us2 ∧ us1.length = pcs.length ∧ slotV a v us1 ∧ Flat w pars vs us2
  | .ptr pcs :: pars, v :: vs, us => ∃ us1 us2 b E fz, us = v :: (us1 ++ us2) ∧ us1.length = pcs.length ∧ v = .pointer (some ⟨b, 0, none⟩) ∧ w.heap[b]? = some (.cells us1.toArray E fz) ∧ free fz us1.length ∧ Flat w pars vs us2
  | _, _, _ => False
def pad : List Ent → List CV → Option (List (Option CV))
  | [], [] => some []
  | [], _ :: _ => none
  | e :: es, cs => match e with
    | .box _ => (pad es cs).map (none :: ·)
    | _ => match cs with
      | c :: cs => (pad es cs).map (some c :: ·)
      | [] => none
def EntIn (w : World) (Z : Fp) (e : Ent) (x : Option CV) (u : Value) (F : Fp) : Prop := match e, x with
  | .val pc, some c => c.s = pc.s ∧ Rep w Z c.s pc.d c.x u F
  | .cell pc, some c => c.s = pc.s ∧ Rep w Z c.s (bif pc.kept then pc.d else 0) c.x u F
  | .box _, none => ∃ b, u = .pointer (some ⟨b, 0, none⟩) ∧ F = fun b' => b' = b
  | _, _ => False
structure Pre (g : Sig) (w : World) (Z : Fp) (F : Nat → Fp) (args : TupT g.ins) (vs us : List Value) : Prop where
  flat : Flat w g.ps vs us
  ent : ∃ xs, pad (ents g.ps) (ofTup g.ins args) = some xs ∧ ∀ (k : Nat) e x u, (ents g.ps)[k]? = some e → xs[k]? = some x → us[k]? = some u → EntIn w Z e x u (F k)
  one : ∀ i j b, F i b → F j b → i = j
  off : ∀ i b, F i b → ¬ Z b ∧ b < w.heap.size
  zs : ∀ b, Z b → b < w.heap.size
  fin : ∀ i, (ents g.ps).length ≤ i → ∀ b, ¬ F i b
def EntOut (w' : World) (Z' : Fp) (e : Ent) (y : Option CV) (u u' : Value) (H : Fp) : Prop := match e, y with
  | .val pc, some c => c.s = pc.s ∧ Rep w' Z' c.s pc.d2 c.x u H
  | .cell pc, some c => c.s = pc.s ∧ Rep w' Z' c.s pc.d2 c.x u' H
  | .cell _, none => u' = u
  | .box _, _ => ∃ b, u = .pointer (some ⟨b, 0, none⟩) ∧ H = fun b' => b' = b
  | .val _, none => True
/-- results' cells; pieces and blocks: 2 i a cell's, 2 i + 1 a box's -/
def ResC (w : World) (Z : Fp) (O : Own) : List (S × Nat) → Nat → List CV → List Value → Prop
  | [], _, [], [] => True
  | (s, d) :: l, i, c :: cs, u :: us => c.s = s ∧ Rep w Z c.s d c.x u (fun b => O b = some (.det (2 * i))) ∧ ResC w Z O l (i + 1) cs us
  | _, _, _, _ => False
def ResR (w : World) (Z : Fp) (O : Own) : List (RK × List (S × Nat)) → Nat → List CV → List Value → Prop
  | [], _, [], [] => True
  | (k, l) :: rs, i, cs, v :: vs => ∃ c1 c2 us, cs = c1 ++ c2 ∧ ResC w Z O l i c1 us ∧ (∀ b k', i ≤ k' → k' < i + l.length → O b = some (.det (2 * k' + 1)) → k = RK.ptr ∧ k' = i) ∧ (match k with
      | .agg => v = .agg us.toArray
      | .one => us = [v]
      | .ptr => ∃ b E fz, v = .pointer (some ⟨b, 0, none⟩) ∧ w.heap[b]? = some (.cells us.toArray E fz) ∧ free fz us.length ∧ ∀ b', O b' = some (.det (2 * i + 1)) ↔ b' = b) ∧ ResR w Z O rs (i + l.length) c2 vs
  | _, _, _, _ => False
def packV : List Value → Value
  | [v] => v
  | vs => .tuple vs.toArray
structure Post1 (g : Sig) (w w' : World) (Z : Fp) (F : Nat → Fp) (out : TupT g.outs) (vs us : List Value) (v : Value) (O : Own) (Z' : Fp) (us' : List Value) : Prop where
  env : SameEnv w w'
  size : w.heap.size ≤ w'.heap.size
  same : ∀ b, b < w.heap.size → (∀ i, ¬ F i b) → w'.heap[b]? = w.heap[b]?
  flat : Flat w' g.ps vs us'
  z : ∀ b, Z b → Z' b
  z' : ∀ b, Z' b → Z b ∨ (∃ i, F i b) ∨ w.heap.size ≤ b
  zo : ∀ b, Z' b → O b = none
  zs : ∀ b, Z' b → b < w'.heap.size
  os : ∀ b s, O b = some s → b < w'.heap.size ∧ ((∃ i, F i b) ∨ w.heap.size ≤ b)
  back : ∃ ys, fill (ents g.ps) ((ofTup g.outs out).drop g.res.length) = some ys ∧ ∀ (k : Nat) e y u u', (ents g.ps)[k]? = some e → ys[k]? = some y → us[k]? = some u → us'[k]? = some u' → EntOut w' Z' e y u u' (fun b => O b = some (.cell k 0))
  det : ∀ b k, O b = some (.det k) → k < 2 * g.res.length
  res : ∃ rv, ResR w' Z' O g.rs 0 ((ofTup g.outs out).take g.res.length) rv ∧ v = packV rv
def Contract (Pg : Program) (g : Sig) (f : Nat) (law : TupT g.ins → Option (TupT g.outs)) : Prop := ∀ args out, law args = some out →
  (∃ fn code, Pg.funcs[f]? = some fn ∧ fn.body = some code ∧ fn.name ≠ "runtime.NumGoroutine") ∧
  ∀ (w : World) (Z : Fp) (F : Nat → Fp) (vs us : List Value), Pre g w Z F args vs us → Calls Pg f vs.toArray w fun e w' => ∃ v, e = .returned v ∧ ∃ O Z' us', Post1 g w w' Z F out vs us v O Z' us'
/-! ### what a call hands over -/
def ItIn (c : Cf) (e : Ent) (it : It) (x : Option CV) (u : Value) : Prop := match e, it, x with
  | .val pc, .no, some x => x.s = pc.s ∧ Rep c.w c.Z x.s pc.d x.x u nil'
  | .val pc, .look id j st, some x => x.s = pc.s ∧ pc.d = 0 ∧ ∃ y d k F, cellAt c.rt id j = some y ∧ y.c = .mk d k ∧ Rep c.w c.Z x.s (d - st.length) x.x u F ∧ ∀ b, F b → c.O b = some (.cell id j)
  | .val pc, .own id j st pc', some x => pc' = pc ∧ x.s = pc.s ∧ pc.s.isRow = true ∧ pc.d ≠ 0 ∧ st.length + pc.d ≤ (match cellAt c.rt id j with | some y => (match y.c with | .mk d _ => d | _ => 0) | none => 0) ∧ (pc.kept = true ∨ st = []) ∧
      ∃ r y d k rv, c.rt id = some r ∧ r.cells[j]? = some y ∧ y.c = .mk d k ∧ rootVal c.w r (c.γ id) j = some rv ∧ inR k.s k.x st ∧ getP k.s k.x st = some x ∧ pv c.w k.s rv st = some u
  | .box n, .box id n', none => n' = n ∧ ∃ r b, c.rt id = some r ∧ r.virt = false ∧ r.cells.length = n ∧ c.γ id = u ∧ u = .pointer (some ⟨b, 0, none⟩)
  | .cell pc, .bown id j pc', some x => pc' = pc ∧ pc.kept = true ∧ x.s = pc.s ∧ ∃ r y d, c.rt id = some r ∧ r.virt = false ∧ r.cells[j]? = some y ∧ y.c = .mk d x ∧ rootVal c.w r (c.γ id) j = some u ∧ (pc.d ≤ d ∨ pc.s.isRow = false)
  | .cell pc, .blk id j pc', some x => pc' = pc ∧ pc.kept = false ∧ x.s = pc.s ∧ ∃ r y, c.rt id = some r ∧ r.virt = false ∧ r.cells[j]? = some y ∧ rootVal c.w r (c.γ id) j = some u ∧ (y.c = .lk x ∨ ∃ d, y.c = .mk d x)
  | _, _, _ => False
def All4 (c : Cf) : List Ent → List It → List (Option CV) → List Value → Prop
  | [], [], [], [] => True
  | e :: es, i :: is, x :: xs, u :: us => ItIn c e i x u ∧ All4 c es is xs us
  | _, _, _, _ => False
theorem All4.append {c : Cf} : ∀ {es : List Ent} {is : List It} {xs : List (Option CV)} {us : List Value} {es' : List Ent} {is' : List It} {xs' : List (Option CV)} {us' : List Value}, All4 c es is xs us → All4 c es' is' xs' us' → All4 c (es ++ es') (is ++ is') (xs ++ xs') (us ++ us')
  | [], [], [], [], _, _, _, _, _, h => h
  | _ :: _, _ :: _, _ :: _, _ :: _, _, _, _, _, h, h' => ⟨h.1, All4.append h.2 h'⟩
theorem All4.len {c : Cf} : ∀ {es : List Ent} {is : List It} {xs : List (Option CV)} {us : List Value}, All4 c es is xs us → es.length = is.length ∧ xs.length = is.length ∧ us.length = is.length
  | [], [], [], [], _ => ⟨rfl, rfl, rfl⟩
  | _ :: _, _ :: _, _ :: _, _ :: _, h => by obtain ⟨h1, h2, h3⟩ := All4.len h.2; simp [h1, h2, h3]
theorem All4.at {c : Cf} : ∀ {es : List Ent} {is : List It} {xs : List (Option CV)} {us : List Value}, All4 c es is xs us → ∀ (k : Nat) it, is[k]? = some it → ∃ e x u, es[k]? = some e ∧ xs[k]? = some x ∧ us[k]? = some u ∧ ItIn c e it x u
  | [], [], [], [], _, k, it, hk => by simp at hk
  | e :: _, i :: _, x :: _, u :: _, h, 0, it, hk => by
    simp only [List.getElem?_cons_zero, Option.some.injEq] at hk
    subst hk
    exact ⟨e, x, u, rfl, rfl, rfl, h.1⟩
  | _ :: _, _ :: _, _ :: _, _ :: _, h, k + 1, it, hk => by
    simp only [List.getElem?_cons_succ] at hk ⊢
    exact All4.at h.2 k it hk
def It.bcell : It → Option (Nat × Nat)
  | .bown id j _ => some (id, j)
  | .blk id j _ => some (id, j)
  | _ => none
structure BoxesOk (its : List It) : Prop where
  down : ∀ k id n, its[k]? = some (.box id n) → ∀ j, j < n → ∃ it, its[k + 1 + j]? = some it ∧ it.bcell = some (id, j)
  up : ∀ (k : Nat) it id j, its[k]? = some it → it.bcell = some (id, j) → ∃ k0 n, its[k0]? = some (.box id n) ∧ k = k0 + 1 + j ∧ j < n
theorem some_left {α : Type} {a b : List α} {k : Nat} {x : α} (h : a[k]? = some x) : (a ++ b)[k]? = some x := by
  rw [List.getElem?_append_left (List.getElem?_eq_some_iff.1 h).1]; exact h
theorem some_right {α : Type} {a b : List α} {k : Nat} : (a ++ b)[a.length + k]? = b[k]? := by
  rw [List.getElem?_append_right (Nat.le_add_right _ _), Nat.add_sub_cancel_left]
theorem split_at {α : Type} {a b : List α} {k : Nat} {x : α} (h : (a ++ b)[k]? = some x) : a[k]? = some x ∨ ∃ m, k = a.length + m ∧ b[m]? = some x := by
  rcases Nat.lt_or_ge k a.length with hk | hk
  · rw [List.getElem?_append_left hk] at h; exact .inl h
  · rw [List.getElem?_append_right hk] at h; exact .inr ⟨k - a.length, by omega, h⟩
theorem BoxesOk.append {a b : List It} (ha : BoxesOk a) (hb : BoxesOk b) : BoxesOk (a ++ b) := by
  refine ⟨fun k id n hk j hj => ?_, fun k it id j hk hbc => ?_⟩
  · rcases split_at hk with h | ⟨m, rfl, h⟩
    · obtain ⟨it, h1, h2⟩ := ha.down k id n h j hj
      exact ⟨it, some_left h1, h2⟩
    · obtain ⟨it, h1, h2⟩ := hb.down m id n h j hj
      refine ⟨it, ?_, h2⟩
      rw [show a.length + m + 1 + j = a.length + (m + 1 + j) by omega, some_right]
      exact h1
  · rcases split_at hk with h | ⟨m, rfl, h⟩
    · obtain ⟨k0, n, h1, h2⟩ := ha.up k it id j h hbc
      exact ⟨k0, n, some_left h1, h2⟩
    · obtain ⟨k0, n, h1, h2, h3⟩ := hb.up m it id j h hbc
      exact ⟨a.length + k0, n, by rw [some_right]; exact h1, by omega, h3⟩
theorem BoxesOk.plain : ∀ {a : List It}, (∀ it ∈ a, it.bcell = none ∧ ∀ id n, it ≠ .box id n) → BoxesOk a := fun {a} h =>
  ⟨fun k id n hk _ _ => absurd rfl ((h _ (List.mem_of_getElem? hk)).2 id n), fun k it id j hk hbc => by rw [(h _ (List.mem_of_getElem? hk)).1] at hbc; cases hbc⟩
theorem ref_full {c : Cf} {id j : Nat} {st : Way} {n : Nat} {v : Value} {x : VC} {d : Nat} {k : CV} {cs : SS} {xs : List cs.T}
    (hx : cellAt c.rt id j = some x) (hxc : x.c = .mk d k) (h : rowOf c.rt cs (.ref id j st none n) = some xs) (hp : c.P1 (.ref id j st none n) v) :
    ∃ r rv, c.rt id = some r ∧ r.cells[j]? = some x ∧ rootVal c.w r (c.γ id) j = some rv ∧ inR k.s k.x st ∧ getP k.s k.x st = some ⟨.row cs, xs⟩ ∧ pv c.w k.s rv st = some v := by
  obtain ⟨r, hr, hxj⟩ := cellAt_some hx
  obtain ⟨ks, kx⟩ := k
  simp only [rowOf, valOf, hx, hxc] at h
  obtain ⟨r', x', rv, p1, p2, p3, p4, p5⟩ := hp
  rw [hr] at p1
  obtain rfl := Option.some.inj p1
  rw [hxj] at p2
  obtain rfl := Option.some.inj p2
  cases hok : x.ok st n with
  | false => simp [hok] at h
  | true =>
    simp only [hok, cond_true] at h
    have hn : n = x.ver st := by
      unfold VC.ok at hok
      unfold VC.ver
      cases st <;> exact Nat.eq_of_beq_eq_true hok
    have hr2 := p5 hn
    unfold RefOk at hr2
    simp only [hxc] at hr2
    obtain ⟨v0, cs', xs', q1, q2, q3, q4, q5⟩ := hr2
    simp only [q3] at h
    subst q5
    have e := CV.as_some h
    simp only [CV.mk.injEq, S.row.injEq] at e
    obtain ⟨rfl, e⟩ := e
    obtain rfl := eq_of_heq e
    exact ⟨r, rv, hr, hxj, p3, q1, q3, q2⟩
theorem gatherCell_in {c : Cf} (hc : c.Inv) {pc : PC} {q : P} {v : Value} {cv : CV} {it : It} (h : gatherCell c.rt pc q = some (cv, it)) (hq : c.P1 q v) : ItIn c (.val pc) it (some cv) v ∧ it.bcell = none ∧ ∀ id n, it ≠ .box id n := by
  obtain ⟨s, d, d2, kept⟩ := pc
  have nl : ∀ {cs : SS} {d : Nat}, Rep c.w c.Z (.row cs) d ([] : List cs.T) (.slice none 0 0) nil' := fun {cs d} => by
    simp only [Rep]
    refine ⟨none, 0, rfl, Nat.le_refl _, ?_⟩
    cases d with
    | zero => exact ⟨trivial, fun i hi => absurd hi (Nat.not_lt_zero _)⟩
    | succ d => exact .inl ⟨rfl, rfl, trivial, trivial⟩
  cases s with
  | row cs =>
    simp only [gatherCell] at h
    split at h
    · cases h
    · rename_i xs hr
      cases hd : Nat.beq d 0 with
      | true =>
        rw [hd] at h
        simp only [cond_true, Option.some.injEq, Prod.mk.injEq] at h
        obtain ⟨rfl, rfl⟩ := h
        have hd0 : d = 0 := Nat.eq_of_beq_eq_true hd
        subst hd0
        cases q with
        | e =>
          simp only [rowOf, Option.some.injEq] at hr
          subst hr
          have : v = .slice none 0 0 := hq
          subst this
          exact ⟨⟨rfl, nl⟩, rfl, fun _ _ h => by cases h⟩
        | cv k =>
          simp only [rowOf, valOf] at hr
          have := CV.as_some hr
          subst this
          exact ⟨⟨rfl, hq⟩, rfl, fun _ _ h => by cases h⟩
        | ref id j st cut n =>
          have hx : ∃ x d k, cellAt c.rt id j = some x ∧ x.c = .mk d k := by
            simp only [rowOf, valOf] at hr
            cases hx : cellAt c.rt id j with
            | none => rw [hx] at hr; cases hr
            | some x =>
              rw [hx] at hr
              cases hxc : x.c with
              | mk d k => exact ⟨x, d, k, rfl, hxc⟩
              | _ => simp [hxc] at hr
          obtain ⟨x, d, k, h1, h2⟩ := hx
          obtain ⟨F, h3, h4⟩ := ref_rep hc h1 h2 hr hq
          exact ⟨⟨rfl, rfl, x, d, k, F, h1, h2, h3, h4⟩, rfl, fun _ _ h => by cases h⟩
        | _ => simp [rowOf, valOf] at hr
      | false =>
        rw [hd] at h
        simp only [cond_false] at h
        have hd : d ≠ 0 := fun e => by subst e; cases hd
        split at h
        · obtain ⟨_, h⟩ := cond_n h
          simp only [Option.some.injEq, Prod.mk.injEq] at h
          obtain ⟨rfl, rfl⟩ := h
          simp only [rowOf, Option.some.injEq] at hr
          subst hr
          have : v = .slice none 0 0 := hq
          subst this
          exact ⟨⟨rfl, nl⟩, rfl, fun _ _ h => by cases h⟩
        · split at h
          · split at h
            · rename_i x hx
              split at h
              · rename_i d0 k hxc
                obtain ⟨hb, h⟩ := cond_s h
                simp only [Option.some.injEq, Prod.mk.injEq] at h
                obtain ⟨rfl, rfl⟩ := h
                simp only [Bool.and_eq_true, Nat.ble_eq, Bool.or_eq_true, List.isEmpty_iff] at hb
                obtain ⟨r, rv, g1, g2, g3, g4, g5, g6⟩ := ref_full hx hxc hr hq
                refine ⟨⟨rfl, rfl, rfl, hd, ?_, hb.2, r, x, d0, k, rv, g1, g2, hxc, g3, g4, g5, g6⟩, rfl, fun _ _ h => by cases h⟩
                rw [hx]
                simp only [hxc]
                exact hb.1
              · cases h
            · cases h
          · cases h
        · cases h
  | _ =>
    simp only [gatherCell] at h
    split at h
    · split at h
      · rename_i k x hx
        simp only [Option.some.injEq, Prod.mk.injEq] at h
        obtain ⟨rfl, rfl⟩ := h
        have := CV.as_some hx
        subst this
        exact ⟨⟨rfl, Rep.deep (Z := c.Z) (d := 0) (Nat.zero_le _) (Nat.zero_le _) hq⟩, rfl, fun _ _ h => by cases h⟩
      · cases h
    · cases h
theorem gatherCells_in {c : Cf} (hc : c.Inv) : ∀ {pcs : List PC} {qs : List P} {vs : List Value} {cs : List CV} {its : List It}, gatherCells c.rt pcs qs = some (cs, its) → qs.length = vs.length → (∀ (i : Nat) p v, qs[i]? = some p → vs[i]? = some v → c.P1 p v) →
    All4 c (pcs.map .val) its (cs.map some) vs ∧ (∀ it ∈ its, it.bcell = none ∧ ∀ id n, it ≠ .box id n)
  | [], [], [], _, _, h, _, _ => by
    simp only [gatherCells, Option.some.injEq, Prod.mk.injEq] at h
    obtain ⟨rfl, rfl⟩ := h
    exact ⟨trivial, fun it hi => by simp at hi⟩
  | [], _ :: _, _, _, _, h, _, _ => by cases h
  | _ :: _, [], _, _, _, h, _, _ => by cases h
  | [], [], _ :: _, _, _, _, hl, _ => by cases hl
  | _ :: _, _ :: _, [], _, _, _, hl, _ => by cases hl
  | pc :: pcs, q :: qs, v :: vs, cs, its, h, hl, hP => by
    simp only [gatherCells] at h
    split at h
    · rename_i cv it h1
      split at h
      · rename_i l is h2
        simp only [Option.some.injEq, Prod.mk.injEq] at h
        obtain ⟨rfl, rfl⟩ := h
        obtain ⟨a1, a2⟩ := gatherCell_in hc h1 (hP 0 q v rfl rfl)
        obtain ⟨b1, b2⟩ := gatherCells_in hc h2 (by simpa using hl) fun i p u hp hu => hP (i + 1) p u (by simpa using hp) (by simpa using hu)
        refine ⟨⟨a1, b1⟩, fun i hi => ?_⟩
        simp only [List.mem_cons] at hi
        rcases hi with rfl | hi
        · exact a2
        · exact b2 i hi
      · cases h
    · cases h
theorem boxVals_in {c : Cf} {id : Nat} {r : Root} (hr : c.rt id = some r) (hv : r.virt = false) : ∀ {pcs : List PC} {j : Nat} {vs : List Value} {cs : List CV} {its : List It}, boxVals c.rt id pcs j = some (cs, its) → vs.length = pcs.length →
    (∀ (i : Nat) v, vs[i]? = some v → rootVal c.w r (c.γ id) (j + i) = some v) → All4 c (pcs.map .cell) its (cs.map some) vs ∧ ∀ (i : Nat) it, its[i]? = some it → it.bcell = some (id, j + i) ∧ ∀ id n, it ≠ .box id n
  | [], _, [], _, _, h, _, _ => by
    simp only [boxVals, Option.some.injEq, Prod.mk.injEq] at h
    obtain ⟨rfl, rfl⟩ := h
    exact ⟨trivial, fun i it hi => by simp at hi⟩
  | [], _, _ :: _, _, _, _, hl, _ => by cases hl
  | _ :: _, _, [], _, _, _, hl, _ => by cases hl
  | pc :: pcs, j, v :: vs, cs, its, h, hl, hV => by
    simp only [boxVals] at h
    split at h
    · rename_i x hx
      split at h
      · rename_i cv it h1
        split at h
        · rename_i l is h2
          simp only [Option.some.injEq, Prod.mk.injEq] at h
          obtain ⟨rfl, rfl⟩ := h
          obtain ⟨r', e1, hxj⟩ := cellAt_some hx
          rw [hr] at e1
          obtain rfl := Option.some.inj e1
          have hv0 : rootVal c.w r (c.γ id) j = some v := hV 0 v rfl
          obtain ⟨b1, b2⟩ := boxVals_in hr hv h2 (by simpa using hl) fun i u hu => by have := hV (i + 1) u (by simpa using hu); rwa [show j + (i + 1) = j + 1 + i by omega] at this
          have a1 : ItIn c (.cell pc) it (some cv) v ∧ it.bcell = some (id, j) ∧ ∀ id n, it ≠ .box id n := by
            unfold boxCell at h1
            split at h1
            · rename_i k hxc
              obtain ⟨hk, h1⟩ := cond_n h1
              split at h1
              · rename_i y hy
                simp only [Option.some.injEq, Prod.mk.injEq] at h1
                obtain ⟨rfl, rfl⟩ := h1
                have := CV.as_some hy
                subst this
                exact ⟨⟨rfl, hk, rfl, r, x, hr, hv, hxj, hv0, .inl hxc⟩, rfl, fun _ _ h => by cases h⟩
              · cases h1
            · rename_i d k hxc
              obtain ⟨hb, h1⟩ := cond_s h1
              split at h1
              · rename_i y hy
                simp only [Option.some.injEq, Prod.mk.injEq] at h1
                obtain ⟨rfl, rfl⟩ := h1
                have := CV.as_some hy
                subst this
                cases hk : pc.kept with
                | true =>
                  simp only [hk, Bool.not_true, Bool.or_false, Bool.or_eq_true, Nat.ble_eq, Bool.not_eq_true'] at hb
                  exact ⟨⟨rfl, hk, rfl, r, x, d, hr, hv, hxj, hxc, hv0, hb⟩, rfl, fun _ _ h => by cases h⟩
                | false => exact ⟨⟨rfl, hk, rfl, r, x, hr, hv, hxj, hv0, .inr ⟨d, hxc⟩⟩, rfl, fun _ _ h => by cases h⟩
              · cases h1
            · cases h1
          refine ⟨⟨a1.1, b1⟩, fun i it' hi => ?_⟩
          cases i with
          | zero =>
            simp only [List.getElem?_cons_zero, Option.some.injEq] at hi
            subst hi
            exact a1.2
          | succ i =>
            have := b2 i it' (by simpa using hi)
            rwa [show j + 1 + i = j + (i + 1) by omega] at this
        · cases h
      · cases h
    · cases h
theorem pad_val {es : List Ent} {l : List CV} {xs : List (Option CV)} (h : pad es l = some xs) : ∀ {pcs : List PC} {cs : List CV}, cs.length = pcs.length → pad (pcs.map .val ++ es) (cs ++ l) = some (cs.map some ++ xs) ∧ pad (pcs.map .cell ++ es) (cs ++ l) = some (cs.map some ++ xs)
  | [], [], _ => ⟨h, h⟩
  | [], _ :: _, hl => by cases hl
  | _ :: _, [], hl => by cases hl
  | pc :: pcs, c :: cs, hl => by
    obtain ⟨h1, h2⟩ := pad_val h (pcs := pcs) (cs := cs) (by simpa using hl)
    simp only [List.map_cons, List.cons_append, pad, h1, h2, Option.map_some]
    exact ⟨trivial, trivial⟩
theorem gather_in {c : Cf} (hc : c.Inv) : ∀ {pars : List Par} {ps : List P} {vs : List Value} {cs : List CV} {its : List It}, gather c.rt pars ps = some (cs, its) → ps.length = vs.length → (∀ (i : Nat) p v, ps[i]? = some p → vs[i]? = some v → c.PR p v) →
    ∃ us xs, Flat c.w pars vs us ∧ pad (ents pars) cs = some xs ∧ All4 c (ents pars) its xs us ∧ BoxesOk its
  | [], [], [], _, _, h, _, _ => by
    simp only [gather, Option.some.injEq, Prod.mk.injEq] at h
    obtain ⟨rfl, rfl⟩ := h
    exact ⟨[], [], rfl, rfl, trivial, BoxesOk.plain fun it hi => by simp at hi⟩
  | [], _ :: _, _, _, _, h, _, _ => by cases h
  | .val _ _ :: _, [], _, _, _, h, _, _ => by cases h
  | .ptr _ :: _, [], _, _, _, h, _, _ => by cases h
  | [], [], _ :: _, _, _, _, hl, _ => by cases hl
  | _ :: _, _ :: _, [], _, _, _, hl, _ => by cases hl
  | .val g pcs :: pars, p :: ps, v :: vs, cs, its, h, hl, hP => by
    simp only [gather] at h
    obtain ⟨hg, h⟩ := cond_n h
    split at h
    · rename_i c1 is1 h1
      split at h
      · rename_i l is2 h2
        simp only [Option.some.injEq, Prod.mk.injEq] at h
        obtain ⟨rfl, rfl⟩ := h
        obtain ⟨us2, xs2, b1, b2, b3, b4⟩ := gather_in hc h2 (by simpa using hl) fun i q u hq hu => hP (i + 1) q u (by simpa using hq) (by simpa using hu)
        have hpv := hP 0 p v rfl rfl
        -- the slot's cells
        have key : ∃ us1 : List Value, slotV g v us1 ∧ p.cells.length = us1.length ∧ ∀ (i : Nat) q u, p.cells[i]? = some q → us1[i]? = some u → c.P1 q u := by
          cases hp : p.isAgg with
          | true =>
            rw [hp] at hg
            cases g with
            | false => cases hg
            | true =>
              cases p with
              | agg ls =>
                obtain ⟨ws, e1, e2, e3⟩ := PR_agg.1 hpv
                exact ⟨ws.toList, by simpa [slotV] using e1, by simp [P.cells, e2], fun i q u hq hu => e3 i q u hq (by simpa using hu)⟩
              | _ => cases hp
          | false =>
            rw [hp] at hg
            cases g with
            | true => cases hg
            | false =>
              have hs := gatherCells_src h1
              have hcells : p.cells = [p] := by cases p <;> first | rfl | cases hp
              rw [hcells] at hs ⊢
              refine ⟨[v], rfl, rfl, fun i q u hq hu => ?_⟩
              cases i with
              | zero =>
                simp only [List.getElem?_cons_zero, Option.some.injEq] at hq hu
                subst hq
                subst hu
                exact src_P1 hpv (hs _ (by simp))
              | succ i => simp at hq
        obtain ⟨us1, k1, k2, k3⟩ := key
        obtain ⟨a1, a2⟩ := gatherCells_in hc h1 k2 k3
        have hlen := a1.len
        simp only [List.length_map] at hlen
        refine ⟨us1 ++ us2, c1.map some ++ xs2, ⟨us1, us2, rfl, by omega, k1, b1⟩, (pad_val b2 (by omega)).1, a1.append b3, (BoxesOk.plain a2).append b4⟩
      · cases h
    · cases h
  | .ptr pcs :: pars, p :: ps, v :: vs, cs, its, h, hl, hP => by
    simp only [gather] at h
    cases p with
    | addr id j st n =>
      cases st with
      | cons _ _ => cases h
      | nil =>
        simp only at h
        obtain ⟨hj, h2⟩ := cond_n h
        clear h
        have hj : j = 0 := by simpa [Nat.beq_eq] using hj
        subst hj
        have h := h2
        clear h2
        cases hr : c.rt id with
        | none => rw [hr] at h; cases h
        | some r =>
          rw [hr] at h
          simp only at h
          obtain ⟨hb, h⟩ := cond_n h
          simp only [Bool.or_eq_false_iff, Bool.not_eq_false', Nat.beq_eq] at hb
          obtain ⟨hvirt, hlen0⟩ := hb
          split at h
          · rename_i c1 is1 h1
            split at h
            · rename_i l is2 h2
              simp only [Option.some.injEq, Prod.mk.injEq] at h
              obtain ⟨rfl, rfl⟩ := h
              obtain ⟨us2, xs2, b1, b2, b3, b4⟩ := gather_in hc h2 (by simpa using hl) fun i q u hq hu => hP (i + 1) q u (by simpa using hq) (by simpa using hu)
              obtain ⟨r', e1, _, b, e3, e4⟩ := hP 0 _ v rfl rfl
              rw [hr] at e1
              obtain rfl := Option.some.inj e1
              obtain ⟨b', ca, E, fz, f1, f2, f3, f4, f5⟩ := (hc.root id r hr).box hvirt
              rw [e3] at f1
              obtain rfl : b = b' := by simpa using f1
              subst e4
              obtain ⟨a1, a2⟩ := boxVals_in hr hvirt (vs := ca.toList) h1 (by simp; omega) fun i u hu => by
                unfold rootVal
                rw [hvirt, e3]
                simp only [Nat.zero_add, World.cell?, f2]
                simpa using hu
              have hlen := a1.len
              simp only [List.length_map, Array.length_toList] at hlen
              refine ⟨_, none :: (c1.map some ++ xs2), ⟨ca.toList, us2, b, E, fz, rfl, by simp; omega, rfl, by simpa using f2, by simpa using f4, b1⟩, ?_, ⟨⟨rfl, r, b, hr, hvirt, hlen0, e3, rfl⟩, a1.append b3⟩, ?_⟩
              · simp only [ents, pad, (pad_val b2 (pcs := pcs) (cs := c1) (by omega)).2, Option.map_some]
              · -- its boxes
                have hbx : BoxesOk (.box id pcs.length :: is1) := by
                  refine ⟨fun k id' n' hk j' hj' => ?_, fun k it id' j' hk hbc => ?_⟩
                  · cases k with
                    | zero =>
                      simp only [List.getElem?_cons_zero, Option.some.injEq, It.box.injEq] at hk
                      obtain ⟨rfl, rfl⟩ := hk
                      have hlt : j' < is1.length := by omega
                      refine ⟨is1[j'], ?_, by have := (a2 j' is1[j'] (by simp [hlt])).1; simpa using this⟩
                      rw [show 0 + 1 + j' = j' + 1 by omega, List.getElem?_cons_succ]
                      simp [hlt]
                    | succ k =>
                      simp only [List.getElem?_cons_succ] at hk
                      exact absurd rfl ((a2 k _ hk).2 id' n')
                  · cases k with
                    | zero =>
                      simp only [List.getElem?_cons_zero, Option.some.injEq] at hk
                      subst hk
                      cases hbc
                    | succ k =>
                      simp only [List.getElem?_cons_succ] at hk
                      have h5 := (a2 k _ hk).1
                      rw [hbc] at h5
                      simp only [Option.some.injEq, Prod.mk.injEq] at h5
                      obtain ⟨rfl, e⟩ := h5
                      have hlt := (List.getElem?_eq_some_iff.1 hk).1
                      exact ⟨0, pcs.length, rfl, by omega, by omega⟩
                have := hbx.append b4
                simpa using this
            · cases h
          · cases h
    | _ => cases h
end Go.PV

/- What is lent at a call, and that the callee's premise is met. -/
namespace Go.PV
variable {Pg : Program}
def It.site : It → Option Site
  | .no => none
  | .look id j _ => some (.cell id j)
  | .own id j _ _ => some (.cell id j)
  | .box id _ => some (.box id)
  | .bown id j _ => some (.cell id j)
  | .blk id j _ => some (.cell id j)
def It.owns : It → Bool
  | .own .. | .box .. | .bown .. => true
  | _ => false
theorem Rep.ro_nil' {w : World} {Z : Fp} {s : S} {x : s.T} {v : Value} {F : Fp} (h : Rep w Z s 0 x v F) : F = nil' := by
  cases s with
  | row cs => exact Rep.ro_nil h
  | int k => exact h.2
  | bool => exact h.2
  | str => exact h.2
theorem Rep.flat_nil {w : World} {Z : Fp} {s : S} {d : Nat} {x : s.T} {v : Value} {F : Fp} (hs : s.isRow = false) (h : Rep w Z s d x v F) : F = nil' := by
  cases s with
  | row cs => cases hs
  | int k => exact h.2
  | bool => exact h.2
  | str => exact h.2
/-- the rest of a cell's row, and what is laid into it -/
def Hole (c : Cf) (id j : Nat) (k : CV) (d : Nat) (rv : Value) (st : Way) (x : CV) (u : Value) (L : Fp) : Prop :=
  ∀ (w' : World) (Z' : Fp) (y : x.s.T) (F2 : Fp) (z : k.s.T), setP k.s k.x st ⟨x.s, y⟩ = some z → (∀ b, c.O b = some (.cell id j) ∧ ¬ L b → w'.heap[b]? = c.w.heap[b]?) → (∀ b, c.Z b → Z' b) → (∀ b, c.Z b → w'.heap[b]? = c.w.heap[b]?) →
    Rep w' Z' x.s (d - st.length) y u F2 → (∀ b, F2 b → ¬ (c.O b = some (.cell id j) ∧ ¬ L b)) → Rep w' Z' k.s d z rv (fun b => (c.O b = some (.cell id j) ∧ ¬ L b) ∨ F2 b)
structure ItFp (c : Cf) (e : Ent) (it : It) (x : Option CV) (u : Value) (L F : Fp) : Prop where
  sub : ∀ b, F b → L b
  ent : EntIn c.w (fun b => c.Z b ∨ (L b ∧ ¬ F b)) e x u F
  site : ∀ b, L b → ∃ s, it.site = some s ∧ c.O b = some s
  ro : it.owns = false → ∀ b, ¬ F b
  frozen : frozenIt c.rt it = true → it.owns = false → ∀ b, ¬ L b
  whole : ∀ id j st pc, it = .own id j st pc → st = [] → ∀ b, c.O b = some (.cell id j) → L b
  wholeB : ∀ id j pc, it = .bown id j pc → ∀ b, c.O b = some (.cell id j) → L b
  wholeX : ∀ id n, it = .box id n → ∀ b, c.O b = some (.box id) → L b
  hole : ∀ id j st pc, it = .own id j st pc → st ≠ [] → ∀ r y d k rv xx, c.rt id = some r → r.cells[j]? = some y → y.c = .mk d k → rootVal c.w r (c.γ id) j = some rv → x = some xx → Hole c id j k d rv st xx u L
theorem item_fp {c : Cf} (hc : c.Inv) {e : Ent} {it : It} {x : Option CV} {u : Value} (h : ItIn c e it x u) : ∃ L F : Fp, ItFp c e it x u L F := by
  have nz : (fun b => c.Z b ∨ ((nil' : Fp) b ∧ ¬ (nil' : Fp) b)) = c.Z := by funext b; simp [nil']
  have ro : ∀ {L : Fp}, (fun b => c.Z b ∨ L b) = (fun b => c.Z b ∨ (L b ∧ ¬ (nil' : Fp) b)) := fun {L} => by funext b; simp [nil']
  cases it with
  | no =>
    cases e with
    | val pc =>
      cases x with
      | some x =>
        exact ⟨nil', nil', fun _ h => h, by rw [nz]; exact h, fun _ h => h.elim, fun _ _ h => h, fun _ _ _ h => h, fun _ _ _ _ h => (by cases h), fun _ _ _ h => (by cases h), fun _ _ h => (by cases h), fun _ _ _ _ h => (by cases h)⟩
      | none => exact h.elim
    | _ => exact h.elim
  | look id j st =>
    cases e with
    | val pc =>
      cases x with
      | some x =>
        obtain ⟨h1, h2, y, d, k, F0, h3, h4, h5, h6⟩ := h
        refine ⟨F0, nil', fun _ h => h.elim, ⟨h1, ?_⟩, fun b hb => ⟨_, rfl, h6 b hb⟩, fun _ _ h => h, fun hf _ b hb => ?_, fun _ _ _ _ h => (by cases h), fun _ _ _ h => (by cases h), fun _ _ h => (by cases h), fun _ _ _ _ h => (by cases h)⟩
        · rw [h2, ← ro]; exact h5.toRo
        · simp only [frozenIt, h3, h4, Nat.ble_eq] at hf
          rw [show d - st.length = 0 by omega] at h5
          rw [h5.ro_nil'] at hb
          exact hb
      | none => exact h.elim
    | _ => exact h.elim
  | own id j st pc' =>
    cases e with
    | val pc =>
      cases x with
      | some x =>
        obtain ⟨rfl, h1, h2, h3, h4, h5, r, y, d, k, rv, g1, g2, g3, g4, g5, g6, g7⟩ := h
        rw [cellAt_eq g1 g2] at h4
        simp only [g3] at h4
        obtain ⟨rv', e1, e2⟩ := (hc.root id r g1).cell j y g2
        rw [g4] at e1
        obtain rfl := Option.some.inj e1
        rw [g3] at e2
        have e2 : Rep c.w c.Z k.s d k.x rv (fun b => c.O b = some (.cell id j)) := e2
        by_cases hst : st = []
        · subst hst
          simp only [getP_nil, Option.some.injEq] at g6
          subst g6
          simp only [pv, Option.some.injEq] at g7
          subst g7
          obtain ⟨F, f1, f2⟩ := Rep.weaken pc'.d (by simpa using h4) e2
          exact ⟨_, F, f1, ⟨h1, f2⟩, fun b hb => ⟨_, rfl, hb⟩, fun h => (by cases h), fun _ h => (by cases h), fun id' j' st' pc' he _ b hb => (by cases he; exact hb), fun _ _ _ h => (by cases h), fun _ _ h => (by cases h), fun _ _ _ _ he hne => by cases he; exact absurd rfl hne⟩
        · obtain ⟨c1, v', F', b, o, q1, q2, q3, q4, q5, q6, q7, ⟨ca, E, fz, q8⟩, q9, q10⟩ := path_write e2 g5 hst (by omega)
          rw [g6] at q1
          obtain rfl := Option.some.inj q1
          have : v' = u := by
            cases st with
            | nil => exact absurd rfl hst
            | cons a t => simp only [pv, q2, q6, Option.some.injEq] at g7; exact g7
          subst this
          obtain ⟨F, f1, f2⟩ := Rep.weaken pc'.d (by omega) q9
          refine ⟨F', F, f1, ⟨h1, f2⟩, fun b hb => ⟨_, rfl, q5 b hb⟩, fun h => (by cases h), fun _ h => (by cases h), fun _ _ _ _ he hs => (by cases he; exact absurd hs hst), fun _ _ _ h => (by cases h), fun _ _ h => (by cases h), fun id' j' st' pc'' he _ r' y' d' k' rv' xx k1 k2 k3 k4 k5 => ?_⟩
          cases he
          rw [g1] at k1
          obtain rfl := Option.some.inj k1
          rw [g2] at k2
          obtain rfl := Option.some.inj k2
          rw [g3] at k3
          simp only [Cell.mk.injEq] at k3
          obtain ⟨rfl, rfl⟩ := k3
          rw [g4] at k4
          obtain rfl := Option.some.inj k4
          obtain rfl := Option.some.inj k5
          intro w' Z' y2 F2 z hz hout hzz hzh hrep hdj
          exact q10 w' Z' y2 v' F2 z hz (SameBut.refl q8 q6 (hout b ⟨q3, q4⟩)) (fun b' hb => hout b' ⟨hb.1, hb.2.1⟩) hzz hzh hrep hdj
      | none => exact h.elim
    | _ => exact h.elim
  | box id n =>
    cases e with
    | box m =>
      cases x with
      | none =>
        obtain ⟨rfl, r, b, h1, h2, h3, h4, h5⟩ := h
        obtain ⟨b', ca, E, fz, f1, f2, f3, f4, f5⟩ := (hc.root id r h1).box h2
        rw [h4, h5] at f1
        obtain rfl : b = b' := by simpa using f1
        refine ⟨_, fun b' => b' = b, fun _ h => h, ⟨b, h5, rfl⟩, fun b' hb => ⟨_, rfl, (f5 b').2 hb⟩, fun h => (by cases h), fun _ h => (by cases h), fun _ _ _ _ h => (by cases h), fun _ _ _ h => (by cases h), fun id' n' he b' hb => ?_, fun _ _ _ _ h => (by cases h)⟩
        cases he
        exact (f5 b').1 hb
      | some x => exact h.elim
    | _ => exact h.elim
  | bown id j pc' =>
    cases e with
    | cell pc =>
      cases x with
      | some x =>
        obtain ⟨rfl, h1, h2, r, y, d, g1, g2, g3, g4, g5, g6⟩ := h
        obtain ⟨rv', e1, e2⟩ := (hc.root id r g1).cell j y g3
        rw [g5] at e1
        obtain rfl := Option.some.inj e1
        rw [g4] at e2
        have e2 : Rep c.w c.Z x.s d x.x u (fun b => c.O b = some (.cell id j)) := e2
        have key : ∃ F : Fp, (∀ b, F b → c.O b = some (.cell id j)) ∧ Rep c.w (fun b => c.Z b ∨ (c.O b = some (.cell id j) ∧ ¬ F b)) x.s pc'.d x.x u F := by
          rcases g6 with g6 | g6
          · exact Rep.weaken pc'.d g6 e2
          · have hr : x.s.isRow = false := by rw [h2]; exact g6
            have hd : x.s.depth = 0 := by cases hx : x.s <;> first | rfl | (rw [hx] at hr; cases hr)
            exact ⟨_, fun b hb => hb, Rep.deep (by omega) (by omega) e2⟩
        obtain ⟨F, f1, f2⟩ := key
        exact ⟨_, F, f1, ⟨h2, by rw [h1]; exact f2⟩, fun b hb => ⟨_, rfl, hb⟩, fun h => (by cases h), fun _ h => (by cases h), fun _ _ _ _ h => (by cases h), fun id' j' pc'' he b hb => (by cases he; exact hb), fun _ _ h => (by cases h), fun _ _ _ _ h => (by cases h)⟩
      | none => exact h.elim
    | _ => exact h.elim
  | blk id j pc' =>
    cases e with
    | cell pc =>
      cases x with
      | some x =>
        obtain ⟨rfl, h1, h2, r, y, g1, g2, g3, g4, g5⟩ := h
        obtain ⟨rv', e1, e2⟩ := (hc.root id r g1).cell j y g3
        rw [g4] at e1
        obtain rfl := Option.some.inj e1
        rcases g5 with g5 | ⟨d, g5⟩
        · rw [g5] at e2
          exact ⟨nil', nil', fun _ h => h, by rw [nz]; exact ⟨h2, by rw [h1]; exact e2.1⟩, fun _ h => h.elim, fun _ _ h => h, fun _ _ _ h => h, fun _ _ _ _ h => (by cases h), fun _ _ _ h => (by cases h), fun _ _ h => (by cases h), fun _ _ _ _ h => (by cases h)⟩
        · rw [g5] at e2
          have e2 : Rep c.w c.Z x.s d x.x u (fun b => c.O b = some (.cell id j)) := e2
          refine ⟨_, nil', fun _ h => h.elim, ⟨h2, by rw [h1, ← ro]; exact e2.toRo⟩, fun b hb => ⟨_, rfl, hb⟩, fun _ _ h => h, fun hf _ b hb => ?_, fun _ _ _ _ h => (by cases h), fun _ _ _ h => (by cases h), fun _ _ h => (by cases h), fun _ _ _ _ h => (by cases h)⟩
          simp only [frozenIt, cellAt_eq g1 g3, g5, Nat.ble_eq] at hf
          obtain rfl : d = 0 := by omega
          have := congrFun e2.ro_nil' b
          simp only [nil', eq_iff_iff, iff_false] at this
          exact this hb
      | none => exact h.elim
    | _ => exact h.elim
/-! ### everything is lent once -/
theorem memNN_mem {a : Nat × Nat} : ∀ {l : List (Nat × Nat)}, memNN a l = true ↔ a ∈ l
  | [] => by simp [memNN]
  | b :: l => by
    simp only [memNN, List.mem_cons]
    cases h : (Nat.beq a.1 b.1 && Nat.beq a.2 b.2) with
    | true =>
      simp only [cond_true, true_iff]
      simp only [Bool.and_eq_true, Nat.beq_eq] at h
      exact .inl (Prod.ext h.1 h.2)
    | false =>
      simp only [cond_false]
      rw [memNN_mem]
      constructor
      · exact .inr
      · rintro (rfl | h2)
        · simp [Nat.beq_eq] at h
        · exact h2
theorem apart_nodup : ∀ {es bs : List (Nat × Nat)}, apartOk es bs = true → es.Nodup ∧ ∀ a ∈ es, a ∉ bs
  | [], _, _ => ⟨List.nodup_nil, fun a ha => by simp at ha⟩
  | a :: l, bs, h => by
    simp only [apartOk, Bool.and_eq_true, Bool.not_eq_true'] at h
    obtain ⟨h1, h2⟩ := apart_nodup h.2
    refine ⟨List.nodup_cons.2 ⟨fun hm => by rw [memNN_mem.2 hm] at h; exact absurd h.1.1 (by simp), h1⟩, fun x hx => ?_⟩
    simp only [List.mem_cons] at hx
    rcases hx with rfl | hx
    · intro hm; rw [memNN_mem.2 hm] at h; exact absurd h.1.2 (by simp)
    · exact h2 x hx
theorem flat_uniq {α β : Type} {f : α → List β} : ∀ {l : List α}, (l.flatMap f).Nodup → ∀ (i j : Nat) x y b, l[i]? = some x → l[j]? = some y → b ∈ f x → b ∈ f y → i = j
  | [], _, i, _, _, _, _, hi, _, _, _ => by simp at hi
  | a :: l, h, i, j, x, y, b, hi, hj, hx, hy => by
    rw [List.flatMap_cons, List.nodup_append] at h
    obtain ⟨_, h2, h3⟩ := h
    cases i with
    | zero =>
      cases j with
      | zero => rfl
      | succ j =>
        simp only [List.getElem?_cons_zero, Option.some.injEq] at hi
        simp only [List.getElem?_cons_succ] at hj
        subst hi
        exact absurd rfl (h3 b hx b (List.mem_flatMap.2 ⟨y, List.mem_of_getElem? hj, hy⟩))
    | succ i =>
      cases j with
      | zero =>
        simp only [List.getElem?_cons_zero, Option.some.injEq] at hj
        simp only [List.getElem?_cons_succ] at hi
        subst hj
        exact absurd rfl (h3 b hy b (List.mem_flatMap.2 ⟨x, List.mem_of_getElem? hi, hx⟩))
      | succ j =>
        simp only [List.getElem?_cons_succ] at hi hj
        rw [flat_uniq h2 i j x y b hi hj hx hy]
/-- a call's arguments, and what is lent -/
structure Lent (c : Cf) (g : Sig) (its : List It) (xs : List (Option CV)) (vs us : List Value) (L F : Nat → Fp) : Prop where
  inv : c.Inv
  flat : Flat c.w g.ps vs us
  all : All4 c (ents g.ps) its xs us
  box : BoxesOk its
  fp : ∀ (k : Nat) it e x u, its[k]? = some it → (ents g.ps)[k]? = some e → xs[k]? = some x → us[k]? = some u → ItFp c e it x u (L k) (F k)
  fin : ∀ k, its.length ≤ k → ∀ b, ¬ L k b ∧ ¬ F k b
  one : ∀ (k k' : Nat) it it' s, its[k]? = some it → its[k']? = some it' → it.owns = true → it'.owns = true → it.site = some s → it'.site = some s → k = k'
  two : ∀ (k k' : Nat) it it' s, its[k]? = some it → its[k']? = some it' → it.owns = true → it'.owns = false → it.site = some s → it'.site ≠ some s
theorem lent_of {c : Cf} (hc : c.Inv) {g : Sig} {its : List It} {xs : List (Option CV)} {vs us : List Value} (hf : Flat c.w g.ps vs us) (ha : All4 c (ents g.ps) its xs us) (hb : BoxesOk its) (hap : apartOk (its.flatMap It.es) (its.flatMap It.bs) = true) : ∃ L F, Lent c g its xs vs us L F := by
  have hex : ∀ k, ∃ p : Fp × Fp, (∀ it e x u, its[k]? = some it → (ents g.ps)[k]? = some e → xs[k]? = some x → us[k]? = some u → ItFp c e it x u p.1 p.2) ∧ (its.length ≤ k → ∀ b, ¬ p.1 b ∧ ¬ p.2 b) := fun k => by
    cases hk : its[k]? with
    | none => exact ⟨(nil', nil'), fun _ _ _ _ h => (by cases h), fun _ _ => ⟨fun h => h, fun h => h⟩⟩
    | some it =>
      obtain ⟨e, x, u, h1, h2, h3, h4⟩ := ha.at k it hk
      obtain ⟨L, F, h5⟩ := item_fp hc h4
      refine ⟨(L, F), fun it' e' x' u' g1 g2 g3 g4 => ?_, fun hl => ?_⟩
      · obtain rfl := Option.some.inj g1
        rw [h1] at g2
        obtain rfl := Option.some.inj g2
        rw [h2] at g3
        obtain rfl := Option.some.inj g3
        rw [h3] at g4
        obtain rfl := Option.some.inj g4
        exact h5
      · have := (List.getElem?_eq_some_iff.1 hk).1
        omega
  obtain ⟨hnd, hbs⟩ := apart_nodup hap
  have boxn : ∀ k id n, its[k]? = some (It.box id n) → ∃ r, c.rt id = some r ∧ r.cells.length = n := fun k id n hk => by
    obtain ⟨e, x, u, h1, h2, h3, h4⟩ := ha.at k _ hk
    cases e with
    | box m =>
      cases x with
      | none =>
        obtain ⟨rfl, r, b, g1, g2, g3, _⟩ := h4
        exact ⟨r, g1, g3⟩
      | some _ => exact h4.elim
    | _ => exact h4.elim
  refine ⟨fun k => (Classical.choose (hex k)).1, fun k => (Classical.choose (hex k)).2, hc, hf, ha, hb, fun k it e x u h1 h2 h3 h4 => (Classical.choose_spec (hex k)).1 it e x u h1 h2 h3 h4, fun k hk => (Classical.choose_spec (hex k)).2 hk, fun k k' it it' s h1 h2 o1 o2 s1 s2 => ?_, fun k k' it it' s h1 h2 o1 o2 s1 s2 => ?_⟩
  · have key : ∃ a, a ∈ it.es ∧ a ∈ it'.es := by
      cases it <;> cases it' <;> simp only [It.owns, It.site, It.es, Option.some.injEq, Bool.false_eq_true, reduceCtorEq] at o1 o2 s1 s2 ⊢ <;> subst s1 <;> simp only [Site.cell.injEq, Site.box.injEq, reduceCtorEq] at s2
      · obtain ⟨rfl, rfl⟩ := s2; exact ⟨_, List.mem_singleton.2 rfl, List.mem_singleton.2 rfl⟩
      · obtain ⟨rfl, rfl⟩ := s2; exact ⟨_, List.mem_singleton.2 rfl, List.mem_singleton.2 rfl⟩
      · subst s2
        obtain ⟨r, e1, e2⟩ := boxn k _ _ h1
        obtain ⟨r', e3, e4⟩ := boxn k' _ _ h2
        rw [e1] at e3
        obtain rfl := Option.some.inj e3
        exact ⟨_, List.mem_singleton.2 rfl, List.mem_singleton.2 (by rw [← e2, ← e4])⟩
      · obtain ⟨rfl, rfl⟩ := s2; exact ⟨_, List.mem_singleton.2 rfl, List.mem_singleton.2 rfl⟩
      · obtain ⟨rfl, rfl⟩ := s2; exact ⟨_, List.mem_singleton.2 rfl, List.mem_singleton.2 rfl⟩
    obtain ⟨a, a1, a2⟩ := key
    exact flat_uniq hnd k k' it it' a h1 h2 a1 a2
  · have key : ∃ a, a ∈ it.es ∧ a ∈ it'.bs := by
      cases it <;> cases it' <;> simp only [It.owns, It.site, It.es, It.bs, Option.some.injEq, Bool.false_eq_true, Bool.true_eq_false, reduceCtorEq] at o1 o2 s1 s2 ⊢ <;> subst s1 <;> simp only [Site.cell.injEq, Site.box.injEq, reduceCtorEq] at s2
      all_goals
        obtain ⟨rfl, rfl⟩ := s2
        exact ⟨_, List.mem_singleton.2 rfl, List.mem_singleton.2 rfl⟩
    obtain ⟨a, a1, a2⟩ := key
    exact hbs a (List.mem_flatMap.2 ⟨it, List.mem_of_getElem? h1, a1⟩) (List.mem_flatMap.2 ⟨it', List.mem_of_getElem? h2, a2⟩)
section
variable {c : Cf} {g : Sig} {its : List It} {xs : List (Option CV)} {vs us : List Value} {L F : Nat → Fp}
theorem Lent.at (h : Lent c g its xs vs us L F) {k : Nat} {b : Nat} (hb : L k b) : ∃ it e x u s, its[k]? = some it ∧ (ents g.ps)[k]? = some e ∧ xs[k]? = some x ∧ us[k]? = some u ∧ ItFp c e it x u (L k) (F k) ∧ it.site = some s ∧ c.O b = some s := by
  have hk : k < its.length := by
    rcases Nat.lt_or_ge k its.length with h' | h'
    · exact h'
    · exact absurd hb (h.fin k h' b).1
  have hit : its[k]? = some its[k] := by simp [hk]
  obtain ⟨e, x, u, h1, h2, h3, h4⟩ := h.all.at k _ hit
  have hfp := h.fp k _ e x u hit h1 h2 h3
  obtain ⟨s, h5, h6⟩ := hfp.site b hb
  exact ⟨_, e, x, u, s, hit, h1, h2, h3, hfp, h5, h6⟩
theorem Lent.sub (h : Lent c g its xs vs us L F) {k b : Nat} (hb : F k b) : L k b ∧ ∃ it s, its[k]? = some it ∧ it.owns = true ∧ it.site = some s ∧ c.O b = some s := by
  have hk : k < its.length := by
    rcases Nat.lt_or_ge k its.length with h' | h'
    · exact h'
    · exact absurd hb (h.fin k h' b).2
  have hit : its[k]? = some its[k] := by simp [hk]
  obtain ⟨e, x, u, h1, h2, h3, h4⟩ := h.all.at k _ hit
  have hfp := h.fp k _ e x u hit h1 h2 h3
  have hl := hfp.sub b hb
  obtain ⟨s, h5, h6⟩ := hfp.site b hl
  refine ⟨hl, _, s, hit, ?_, h5, h6⟩
  cases ho : its[k].owns with
  | true => rfl
  | false => exact absurd hb (hfp.ro ho b)
/-- what the callee may only read -/
def Zc (c : Cf) (L F : Nat → Fp) : Fp := fun b => c.Z b ∨ ∃ k, L k b ∧ ¬ F k b
theorem Lent.off (h : Lent c g its xs vs us L F) {i b : Nat} (hb : F i b) : ¬ Zc c L F b := by
  obtain ⟨hl, it, s, h1, h2, h3, h4⟩ := h.sub hb
  rintro (hz | ⟨k, k1, k2⟩)
  · rw [h.inv.zo b hz] at h4; cases h4
  · obtain ⟨it', e, x, u, s', g1, _, _, _, g5, g6, g7⟩ := h.at k1
    rw [h4] at g7
    obtain rfl := Option.some.inj g7
    cases ho : it'.owns with
    | true =>
      obtain rfl := h.one i k it it' s h1 g1 h2 ho h3 g6
      exact k2 hb
    | false => exact h.two i k it it' s h1 g1 h2 ho h3 g6
theorem Lent.pre (h : Lent c g its xs vs us L F) {args : TupT g.ins} (hp : pad (ents g.ps) (ofTup g.ins args) = some xs) : Pre g c.w (Zc c L F) F args vs us := by
  have zs : ∀ b, Zc c L F b → b < c.w.heap.size := fun b hb => by
    rcases hb with hb | ⟨k, hb, _⟩
    · exact h.inv.zs b hb
    · obtain ⟨it', e, x, u, s', _, _, _, _, _, _, g7⟩ := h.at hb
      exact h.inv.os b _ g7
  refine ⟨h.flat, ⟨xs, hp, fun k e x u h1 h2 h3 => ?_⟩, fun i j b hi hj => ?_, fun i b hb => ⟨h.off hb, ?_⟩, zs, fun i hi b hb => ?_⟩
  · have hl := h.all.len
    have hk : k < its.length := by have := (List.getElem?_eq_some_iff.1 h1).1; omega
    have hfp := h.fp k its[k] e x u (by simp [hk]) h1 h2 h3
    have hz : ∀ b, (c.Z b ∨ (L k b ∧ ¬ F k b)) → Zc c L F b := fun b hb => hb.imp id fun hb => ⟨k, hb⟩
    have he := hfp.ent
    cases e with
    | val pc =>
      cases x with
      | some x => exact ⟨he.1, he.2.mono hz⟩
      | none => exact he
    | cell pc =>
      cases x with
      | some x => exact ⟨he.1, he.2.mono hz⟩
      | none => exact he
    | box n =>
      cases x with
      | some x => exact he
      | none => exact he
  · obtain ⟨_, it, s, h1, h2, h3, h4⟩ := h.sub hi
    obtain ⟨_, it', s', g1, g2, g3, g4⟩ := h.sub hj
    rw [h4] at g4
    obtain rfl := Option.some.inj g4
    exact h.one i j it it' s h1 g1 h2 g2 h3 g3
  · obtain ⟨_, it, s, h1, h2, h3, h4⟩ := h.sub hb
    exact h.inv.os b _ h4
  · exact (h.fin i (by have := h.all.len; omega) b).2 hb
end
end Go.PV

/- Behind a call: what came back lies where it came from. -/
namespace Go.PV
variable {Pg : Program}
theorem flat_len {w : World} : ∀ {pars : List Par} {vs us : List Value}, Flat w pars vs us → us.length = (ents pars).length
  | [], [], us, h => by simp only [Flat] at h; subst h; rfl
  | [], _ :: _, _, h => h.elim
  | .val _ _ :: _, [], _, h => h.elim
  | .ptr _ :: _, [], _, h => h.elim
  | .val a pcs :: pars, v :: vs, us, h => by
    obtain ⟨us1, us2, rfl, h1, _, h2⟩ := h
    simp [ents, flat_len h2, h1]
  | .ptr pcs :: pars, v :: vs, us, h => by
    obtain ⟨us1, us2, b, E, fz, rfl, h1, _, _, _, h2⟩ := h
    simp [ents, flat_len h2, h1]
theorem flat_box {w : World} : ∀ {pars : List Par} {vs us : List Value}, Flat w pars vs us → ∀ (k n : Nat), (ents pars)[k]? = some (.box n) →
    ∃ b E fz, us[k]? = some (.pointer (some ⟨b, 0, none⟩)) ∧ w.heap[b]? = some (.cells ((us.drop (k + 1)).take n).toArray E fz) ∧ free fz n ∧ ((us.drop (k + 1)).take n).length = n
  | [], [], us, _, k, n, hk => by simp [ents] at hk
  | [], _ :: _, _, h, _, _, _ => h.elim
  | .val _ _ :: _, [], _, h, _, _, _ => h.elim
  | .ptr _ :: _, [], _, h, _, _, _ => h.elim
  | .val a pcs :: pars, v :: vs, us, h, k, n, hk => by
    obtain ⟨us1, us2, rfl, h1, _, h2⟩ := h
    simp only [ents] at hk
    rcases split_at hk with hk1 | ⟨m, rfl, hk2⟩
    · simp at hk1
    · obtain ⟨b, E, fz, g1, g2, g3, g4⟩ := flat_box h2 m n hk2
      rw [List.length_map, ← h1]
      have e : (us1 ++ us2).drop (us1.length + m + 1) = us2.drop (m + 1) := by
        rw [show us1.length + m + 1 = us1.length + (m + 1) by omega, List.drop_append]
        simp
      rw [e, some_right]
      exact ⟨b, E, fz, g1, g2, g3, g4⟩
  | .ptr pcs :: pars, v :: vs, us, h, k, n, hk => by
    obtain ⟨us1, us2, b, E, fz, rfl, h1, h3, h4, h5, h2⟩ := h
    simp only [ents] at hk
    cases k with
    | zero =>
      simp only [List.getElem?_cons_zero, Option.some.injEq, Ent.box.injEq] at hk
      subst hk
      refine ⟨b, E, fz, by simp [h3], ?_, by rw [← h1]; exact h5, ?_⟩
      · simp only [Nat.zero_add, List.drop_succ_cons, List.drop_zero]
        rw [← h1, List.take_append_of_le_length (Nat.le_refl _), List.take_length]
        exact h4
      · simp only [Nat.zero_add, List.drop_succ_cons, List.drop_zero]
        rw [← h1, List.take_append_of_le_length (Nat.le_refl _), List.take_length]
    | succ k =>
      simp only [List.getElem?_cons_succ] at hk
      rcases split_at hk with hk1 | ⟨m, rfl, hk2⟩
      · simp at hk1
      · obtain ⟨b, E, fz, g1, g2, g3, g4⟩ := flat_box h2 m n hk2
        rw [List.length_map, ← h1]
        have e : (v :: (us1 ++ us2)).drop (us1.length + m + 1 + 1) = us2.drop (m + 1) := by
          rw [List.drop_succ_cons, show us1.length + m + 1 = us1.length + (m + 1) by omega, List.drop_append]
          simp
        rw [e, List.getElem?_cons_succ, some_right]
        exact ⟨b, E, fz, g1, g2, g3, g4⟩
theorem flat_same {w w' : World} : ∀ {pars : List Par} {vs us us' : List Value}, Flat w pars vs us → Flat w' pars vs us' → ∀ (k : Nat), (∀ pc, (ents pars)[k]? ≠ some (.cell pc)) → us'[k]? = us[k]?
  | [], [], us, us', h, h', k, _ => by simp only [Flat] at h h'; subst h; subst h'; rfl
  | [], _ :: _, _, _, h, _, _, _ => h.elim
  | .val _ _ :: _, [], _, _, h, _, _, _ => h.elim
  | .ptr _ :: _, [], _, _, h, _, _, _ => h.elim
  | .val a pcs :: pars, v :: vs, us, us', h, h', k, hk => by
    obtain ⟨us1, us2, rfl, h1, h3, h2⟩ := h
    obtain ⟨us1', us2', rfl, h1', h3', h2'⟩ := h'
    have e : us1' = us1 := by
      cases a with
      | true =>
        simp only [slotV] at h3 h3'
        rw [h3] at h3'
        simpa using h3'.symm
      | false =>
        simp only [slotV] at h3 h3'
        rw [h3, h3']
    subst e
    rcases Nat.lt_or_ge k us1'.length with hlt | hge
    · rw [List.getElem?_append_left hlt, List.getElem?_append_left hlt]
    · rw [List.getElem?_append_right hge, List.getElem?_append_right hge]
      refine flat_same h2 h2' _ fun pc hpc => hk pc ?_
      simp only [ents]
      rw [List.getElem?_append_right (by simp; omega), List.length_map, ← h1]
      exact hpc
  | .ptr pcs :: pars, v :: vs, us, us', h, h', k, hk => by
    obtain ⟨us1, us2, b, E, fz, rfl, h1, h3, h4, h5, h2⟩ := h
    obtain ⟨us1', us2', b', E', fz', rfl, h1', h3', h4', h5', h2'⟩ := h'
    cases k with
    | zero => rfl
    | succ k =>
      simp only [List.getElem?_cons_succ]
      rcases Nat.lt_or_ge k pcs.length with hlt | hge
      · exfalso
        refine hk pcs[k] ?_
        simp only [ents, List.getElem?_cons_succ]
        rw [List.getElem?_append_left (by simpa using hlt)]
        simp [hlt]
      · rw [List.getElem?_append_right (by omega), List.getElem?_append_right (by omega), h1, h1']
        refine flat_same h2 h2' _ fun pc hpc => hk pc ?_
        simp only [ents, List.getElem?_cons_succ]
        rw [List.getElem?_append_right (by simpa using hge), List.length_map]
        exact hpc
theorem fill_at : ∀ {es : List Ent} {cs : List CV} {ys : List (Option CV)}, fill es cs = some ys → ys.length = es.length ∧ ∀ (k : Nat) e, es[k]? = some e → (e.back = true → ∃ y, ys[k]? = some (some y)) ∧ (e.back = false → ys[k]? = some none)
  | [], [], ys, h => by
    simp only [fill, Option.some.injEq] at h
    subst h
    exact ⟨rfl, fun k e hk => by simp at hk⟩
  | [], _ :: _, _, h => by cases h
  | e0 :: es, cs, ys, h => by
    simp only [fill] at h
    cases hb : e0.back with
    | true =>
      rw [hb] at h
      simp only [cond_true] at h
      split at h
      · split at h
        · rename_i l hl
          obtain rfl := Option.some.inj h
          obtain ⟨h1, h2⟩ := fill_at hl
          refine ⟨by simp [h1], fun k e hk => ?_⟩
          cases k with
          | zero =>
            simp only [List.getElem?_cons_zero, Option.some.injEq] at hk
            subst hk
            exact ⟨fun _ => ⟨_, rfl⟩, fun h => by rw [hb] at h; cases h⟩
          | succ k => simpa using h2 k e (by simpa using hk)
        · cases h
      · cases h
    | false =>
      rw [hb] at h
      simp only [cond_false] at h
      split at h
      · rename_i l hl
        obtain rfl := Option.some.inj h
        obtain ⟨h1, h2⟩ := fill_at hl
        refine ⟨by simp [h1], fun k e hk => ?_⟩
        cases k with
        | zero =>
          simp only [List.getElem?_cons_zero, Option.some.injEq] at hk
          subst hk
          exact ⟨fun h => (by rw [hb] at h; cases h), fun _ => rfl⟩
        | succ k => simpa using h2 k e (by simpa using hk)
      · cases h
theorem backOne_spec {rt rt1 : Rt} {it : It} {y : Option CV} (h : backOne rt it y = some rt1) : (it.at = none → rt1 = rt) ∧ ∀ id j, it.at = some (id, j) → ∃ r x x', rt id = some r ∧ r.cells[j]? = some x ∧ newCell it x y = some x' ∧ rt1 = setRt rt id ⟨r.virt, r.cells.set j x'⟩ := by
  unfold backOne at h
  split at h
  · rename_i id j hat
    refine ⟨fun e => (by rw [hat] at e; cases e), fun id' j' e => ?_⟩
    rw [hat] at e
    obtain ⟨rfl, rfl⟩ := Prod.mk.inj (Option.some.inj e)
    split at h
    · rename_i x hx
      split at h
      · rename_i x' hx'
        obtain ⟨r, hr, hxj⟩ := cellAt_some hx
        exact ⟨r, x, x', hr, hxj, hx', setCellAt_some hr h⟩
      · cases h
    · cases h
  · rename_i hat
    refine ⟨fun _ => ?_, fun id j e => (by rw [hat] at e; cases e)⟩
    split at h
    · exact (Option.some.inj h).symm
    · cases h
theorem back_spec : ∀ {its : List It} {ys : List (Option CV)} {rt rt2 : Rt}, backAll rt its ys = some rt2 → (∀ (k k' : Nat) it it' q, its[k]? = some it → its[k']? = some it' → it.at = some q → it'.at = some q → k = k') →
    ys.length = its.length ∧ (∀ id, rt id = none → rt2 id = none) ∧ ∀ id r, rt id = some r → ∃ r2, rt2 id = some r2 ∧ r2.virt = r.virt ∧ r2.cells.length = r.cells.length ∧ ∀ (j : Nat) x, r.cells[j]? = some x → ∃ x2, r2.cells[j]? = some x2 ∧
      ((∀ (k : Nat) it, its[k]? = some it → it.at ≠ some (id, j)) → x2 = x) ∧ ∀ (k : Nat) it y, its[k]? = some it → ys[k]? = some y → it.at = some (id, j) → newCell it x y = some x2
  | [], [], rt, rt2, h, _ => by
    simp only [backAll, Option.some.injEq] at h
    subst h
    exact ⟨rfl, fun _ h => h, fun id r hr => ⟨r, hr, rfl, rfl, fun j x hx => ⟨x, hx, fun _ => rfl, fun k it y hk => by simp at hk⟩⟩⟩
  | [], _ :: _, _, _, h, _ => by cases h
  | _ :: _, [], _, _, h, _ => by cases h
  | it0 :: its, y0 :: ys, rt, rt2, h, hu => by
    simp only [backAll] at h
    split at h
    · rename_i rt1 h1
      obtain ⟨hlen, hnone, hsome⟩ := back_spec h fun k k' it it' q g1 g2 g3 g4 => by have := hu (k + 1) (k' + 1) it it' q (by simpa using g1) (by simpa using g2) g3 g4; omega
      obtain ⟨s1, s2⟩ := backOne_spec h1
      refine ⟨by simp [hlen], fun id hid => ?_, fun id r hr => ?_⟩
      · cases hat : it0.at with
        | none => obtain rfl := s1 hat; exact hnone id hid
        | some q =>
          obtain ⟨i0, j0⟩ := q
          obtain ⟨r0, x0, x', e1, e2, e3, rfl⟩ := s2 i0 j0 hat
          refine hnone id ?_
          have hne : id ≠ i0 := fun e => by subst e; rw [hid] at e1; cases e1
          rw [setRt_ne hne]; exact hid
      · cases hat : it0.at with
        | none =>
          obtain rfl := s1 hat
          obtain ⟨r2, g1, g2, g3, g4⟩ := hsome id r hr
          refine ⟨r2, g1, g2, g3, fun j x hx => ?_⟩
          obtain ⟨x2, k1, k2, k3⟩ := g4 j x hx
          refine ⟨x2, k1, fun hn => k2 fun k it hk => hn (k + 1) it (by simpa using hk), fun k it y hk hy ha => ?_⟩
          cases k with
          | zero =>
            simp only [List.getElem?_cons_zero, Option.some.injEq] at hk
            subst hk
            rw [hat] at ha; cases ha
          | succ k => exact k3 k it y (by simpa using hk) (by simpa using hy) ha
        | some q =>
          obtain ⟨i0, j0⟩ := q
          obtain ⟨r0, x0, x', e1, e2, e3, rfl⟩ := s2 i0 j0 hat
          by_cases hid : id = i0
          · subst hid
            rw [hr] at e1
            obtain rfl := Option.some.inj e1
            obtain ⟨r2, g1, g2, g3, g4⟩ := hsome id ⟨r.virt, r.cells.set j0 x'⟩ setRt_self
            refine ⟨r2, g1, g2, g3.trans (by simp), fun j x hx => ?_⟩
            by_cases hj : j = j0
            · subst hj
              rw [hx] at e2
              obtain rfl := Option.some.inj e2
              have hlt := (List.getElem?_eq_some_iff.1 hx).1
              obtain ⟨x2, k1, k2, k3⟩ := g4 j x' (by simp [hlt])
              have hx2 : x2 = x' := k2 fun k it hk ha => by have := hu 0 (k + 1) it0 it (id, j) rfl (by simpa using hk) hat ha; omega
              subst hx2
              refine ⟨x2, k1, fun hn => absurd hat (hn 0 it0 rfl), fun k it y hk hy ha => ?_⟩
              cases k with
              | zero =>
                simp only [List.getElem?_cons_zero, Option.some.injEq] at hk hy
                subst hk
                subst hy
                exact e3
              | succ k => have := hu 0 (k + 1) it0 it (id, j) rfl hk hat ha; omega
            · obtain ⟨x2, k1, k2, k3⟩ := g4 j x (by rw [List.getElem?_set_ne (Ne.symm hj)]; exact hx)
              refine ⟨x2, k1, fun hn => k2 fun k it hk => hn (k + 1) it (by simpa using hk), fun k it y hk hy ha => ?_⟩
              cases k with
              | zero =>
                simp only [List.getElem?_cons_zero, Option.some.injEq] at hk
                subst hk
                rw [hat] at ha
                exact absurd (Prod.mk.inj (Option.some.inj ha)).2.symm hj
              | succ k => exact k3 k it y (by simpa using hk) (by simpa using hy) ha
          · obtain ⟨r2, g1, g2, g3, g4⟩ := hsome id r (by rw [setRt_ne hid]; exact hr)
            refine ⟨r2, g1, g2, g3, fun j x hx => ?_⟩
            obtain ⟨x2, k1, k2, k3⟩ := g4 j x hx
            refine ⟨x2, k1, fun hn => k2 fun k it hk => hn (k + 1) it (by simpa using hk), fun k it y hk hy ha => ?_⟩
            cases k with
            | zero =>
              simp only [List.getElem?_cons_zero, Option.some.injEq] at hk
              subst hk
              rw [hat] at ha
              exact absurd (Prod.mk.inj (Option.some.inj ha)).1.symm hid
            | succ k => exact k3 k it y (by simpa using hk) (by simpa using hy) ha
    · cases h
/-! ### whose blocks are whose behind the call -/
def convS (its : List It) (k : Nat) : Option Site := match its[k]? with
  | some (.own id j _ pc) => bif pc.kept then some (.cell id j) else none
  | some (.bown id j _) => some (.cell id j)
  | some (.box id _) => some (.box id)
  | _ => none
def lentAt (its : List It) (L : Nat → Fp) (b : Nat) : Prop := ∃ k it, its[k]? = some it ∧ it.owns = true ∧ L k b
noncomputable def ownAfter (c : Cf) (its : List It) (L : Nat → Fp) (O1 : Own) : Own := fun b => open Classical in match O1 b with
  | some (.cell k j) => if j = 0 then convS its k else none
  | some (.det n) => some (.det n)
  | some (.box _) => none
  | none => if b < c.w.heap.size ∧ ¬ lentAt its L b then c.O b else none
theorem convS_site {its : List It} {k : Nat} {s : Site} (h : convS its k = some s) : ∃ it, its[k]? = some it ∧ it.owns = true ∧ it.site = some s := by
  unfold convS at h
  split at h
  · rename_i id j st pc hk
    obtain ⟨_, h⟩ := cond_s h
    obtain rfl := Option.some.inj h
    exact ⟨_, hk, rfl, rfl⟩
  · rename_i hk; obtain rfl := Option.some.inj h; exact ⟨_, hk, rfl, rfl⟩
  · rename_i hk; obtain rfl := Option.some.inj h; exact ⟨_, hk, rfl, rfl⟩
  · cases h
section
variable {c : Cf} {its : List It} {L : Nat → Fp} {O1 : Own}
theorem ownAfter_some {b : Nat} {s : Site} (h : ownAfter c its L O1 b = some s) : (∃ k, O1 b = some (.cell k 0) ∧ convS its k = some s) ∨ (∃ n, s = .det n ∧ O1 b = some (.det n)) ∨ (O1 b = none ∧ b < c.w.heap.size ∧ ¬ lentAt its L b ∧ c.O b = some s) := by
  unfold ownAfter at h
  split at h
  · rename_i k j hk
    split at h
    · rename_i hj; subst hj; exact .inl ⟨k, hk, h⟩
    · cases h
  · rename_i n hn; exact .inr (.inl ⟨n, (Option.some.inj h).symm, hn⟩)
  · cases h
  · rename_i hn
    split at h
    · rename_i hc; exact .inr (.inr ⟨hn, hc.1, hc.2, h⟩)
    · cases h
theorem ownAfter_back {b k : Nat} (h : O1 b = some (.cell k 0)) : ownAfter c its L O1 b = convS its k := by
  unfold ownAfter; rw [h]; simp
theorem ownAfter_det {b n : Nat} (h : O1 b = some (.det n)) : ownAfter c its L O1 b = some (.det n) := by
  unfold ownAfter; rw [h]
theorem ownAfter_old {b : Nat} (h : O1 b = none) (hb : b < c.w.heap.size) (hl : ¬ lentAt its L b) : ownAfter c its L O1 b = c.O b := by
  unfold ownAfter; rw [h]; simp only; rw [if_pos ⟨hb, hl⟩]
theorem ownAfter_none {b : Nat} (h : O1 b = none) (hc : b < c.w.heap.size → ¬ lentAt its L b → c.O b = none) : ownAfter c its L O1 b = none := by
  unfold ownAfter
  rw [h]
  simp only
  split
  · rename_i hb; exact hc hb.1 hb.2
  · rfl
end
end Go.PV

/- Behind a call: the caller's state. -/
namespace Go.PV
theorem It.at_site {it : It} {id j : Nat} (h : it.owns = true) (hs : it.site = some (.cell id j)) : it.at = some (id, j) := by
  cases it <;> simp only [It.owns, It.site, It.at, Option.some.injEq, Site.cell.injEq, reduceCtorEq, Bool.false_eq_true] at h hs ⊢
  · obtain ⟨rfl, rfl⟩ := hs; rfl
  · obtain ⟨rfl, rfl⟩ := hs; rfl
theorem It.site_at {it : It} {id j : Nat} (h : it.at = some (id, j)) : it.owns = true ∧ it.site = some (.cell id j) := by
  cases it <;> simp only [It.owns, It.site, It.at, Option.some.injEq, Prod.mk.injEq, Site.cell.injEq, reduceCtorEq] at h ⊢
  · exact ⟨trivial, h⟩
  · exact ⟨trivial, h⟩
theorem Rep.len_eq {w w' : World} {Z Z' : Fp} {cs : SS} {d d' : Nat} {xs ys : List cs.T} {v : Value} {F F' : Fp} (h : Rep w Z (.row cs) d xs v F) (h' : Rep w' Z' (.row cs) d' ys v F') : ys.length = xs.length := by
  simp only [Rep] at h h'
  obtain ⟨A, cap, e, _⟩ := h
  obtain ⟨A', cap', e', _⟩ := h'
  rw [e] at e'
  simp only [Value.slice.injEq] at e'
  exact e'.2.1.symm
theorem ents_back : ∀ {ps : List Par} {k : Nat} {e : Ent}, (ents ps)[k]? = some e → e.back = true → ∀ pc, (e = .val pc ∨ e = .cell pc) → pc ∈ ps.flatMap Par.back
  | [], k, e, h, _, _, _ => by simp [ents] at h
  | .val a l :: ps, k, e, h, hb, pc, hpc => by
    simp only [ents] at h
    rw [List.flatMap_cons, List.mem_append]
    rcases split_at h with h1 | ⟨m, rfl, h2⟩
    · rw [List.getElem?_map, Option.map_eq_some_iff] at h1
      obtain ⟨pc', g1, rfl⟩ := h1
      rcases hpc with hpc | hpc
      · cases hpc
        refine .inl ?_
        simp only [Par.back, List.mem_filter]
        refine ⟨List.mem_of_getElem? g1, ?_⟩
        simp only [Ent.back, Bool.and_eq_true, Bool.not_eq_true'] at hb ⊢
        refine ⟨hb.1, ?_⟩
        cases hd : (pc.d == 0) with
        | false => rfl
        | true =>
          have : pc.d = 0 := by simpa using hd
          rw [this] at hb
          exact absurd hb.2 (by simp)
      · cases hpc
    · exact .inr (ents_back h2 hb pc hpc)
  | .ptr l :: ps, k, e, h, hb, pc, hpc => by
    simp only [ents] at h
    rw [List.flatMap_cons, List.mem_append]
    cases k with
    | zero =>
      simp only [List.getElem?_cons_zero, Option.some.injEq] at h
      subst h
      cases hb
    | succ k =>
      simp only [List.getElem?_cons_succ] at h
      rcases split_at h with h1 | ⟨m, rfl, h2⟩
      · rw [List.getElem?_map, Option.map_eq_some_iff] at h1
        obtain ⟨pc', g1, rfl⟩ := h1
        rcases hpc with hpc | hpc
        · cases hpc
        · cases hpc
          refine .inl ?_
          simp only [Par.back, List.mem_filter]
          exact ⟨List.mem_of_getElem? g1, hb⟩
      · exact .inr (ents_back h2 hb pc hpc)
def zAfter (g : Sig) (c : Cf) (Z1 : Fp) : Fp := match g.holds with
  | true => Z1
  | false => c.Z
section
variable {c : Cf} {g : Sig} {its : List It} {xs : List (Option CV)} {vs us us' : List Value} {L F : Nat → Fp} {w' : World} {out : TupT g.outs} {v : Value} {O1 : Own} {Z1 : Fp} {ys : List (Option CV)} {rt2 : Rt}
structure Came (c : Cf) (g : Sig) (its : List It) (xs : List (Option CV)) (vs us us' : List Value) (L F : Nat → Fp) (w' : World) (out : TupT g.outs) (v : Value) (O1 : Own) (Z1 : Fp) (ys : List (Option CV)) (rt2 : Rt) : Prop where
  lent : Lent c g its xs vs us L F
  post : Post1 g c.w w' (Zc c L F) F out vs us v O1 Z1 us'
  fill : PV.fill (ents g.ps) ((ofTup g.outs out).drop g.res.length) = some ys
  back : backAll c.rt its ys = some rt2
  froz : g.holds = true → its.all (frozenIt c.rt) = true
/-- nothing that owns has this place -/
def NoOwn (its : List It) (s : Site) : Prop := ∀ (k : Nat) it, its[k]? = some it → it.owns = true → it.site ≠ some s
theorem Came.nof (h : Came c g its xs vs us us' L F w' out v O1 Z1 ys rt2) {b : Nat} {s : Site} (hb : c.O b = some s) (hn : NoOwn its s) : (∀ i, ¬ F i b) ∧ ¬ lentAt its L b := by
  refine ⟨fun i hi => ?_, fun ⟨k, it, h1, h2, h3⟩ => ?_⟩
  · obtain ⟨_, it, s', h1, h2, h3, h4⟩ := h.lent.sub hi
    rw [hb] at h4
    obtain rfl := Option.some.inj h4
    exact hn i it h1 h2 h3
  · obtain ⟨it', e, x, u, s', g1, _, _, _, _, g6, g7⟩ := h.lent.at h3
    rw [h1] at g1
    obtain rfl := Option.some.inj g1
    rw [hb] at g7
    obtain rfl := Option.some.inj g7
    exact hn k it h1 h2 g6
theorem Came.o1none (h : Came c g its xs vs us us' L F w' out v O1 Z1 ys rt2) {b : Nat} (hb : b < c.w.heap.size) (hn : ∀ i, ¬ F i b) : O1 b = none := by
  cases ho : O1 b with
  | none => rfl
  | some s =>
    rcases (h.post.os b s ho).2 with ⟨i, hi⟩ | hi
    · exact absurd hi (hn i)
    · omega
theorem Came.keep (h : Came c g its xs vs us us' L F w' out v O1 Z1 ys rt2) {b : Nat} {s : Site} (hb : c.O b = some s) (hn : NoOwn its s) : w'.heap[b]? = c.w.heap[b]? ∧ ownAfter c its L O1 b = some s := by
  obtain ⟨h1, h2⟩ := h.nof hb hn
  have hlt := h.lent.inv.os b s hb
  exact ⟨h.post.same b hlt h1, (ownAfter_old (h.o1none hlt h1) hlt h2).trans hb⟩
theorem Came.zheap (h : Came c g its xs vs us us' L F w' out v O1 Z1 ys rt2) {b : Nat} (hb : c.Z b) : w'.heap[b]? = c.w.heap[b]? ∧ O1 b = none := by
  have hn : ∀ i, ¬ F i b := fun i hi => h.lent.off hi (.inl hb)
  have hlt := h.lent.inv.zs b hb
  exact ⟨h.post.same b hlt hn, h.o1none hlt hn⟩
theorem Came.znext (h : Came c g its xs vs us us' L F w' out v O1 Z1 ys rt2) {b : Nat} (hb : c.Z b) : zAfter g c Z1 b := by
  unfold zAfter
  cases g.holds with
  | false => exact hb
  | true => exact h.post.z b (.inl hb)
theorem Came.znone (h : Came c g its xs vs us us' L F w' out v O1 Z1 ys rt2) {b : Nat} (hb : zAfter g c Z1 b) : ownAfter c its L O1 b = none ∧ b < w'.heap.size ∧ (c.Z b ∨ c.O b ≠ none ∨ c.w.heap.size ≤ b) := by
  unfold zAfter at hb
  cases hh : g.holds with
  | false =>
    rw [hh] at hb
    have hb : c.Z b := hb
    exact ⟨ownAfter_none (h.zheap hb).2 fun _ _ => h.lent.inv.zo b hb, Nat.lt_of_lt_of_le (h.lent.inv.zs b hb) h.post.size, .inl hb⟩
  | true =>
    rw [hh] at hb
    have hb : Z1 b := hb
    have key : c.Z b ∨ lentAt its L b ∨ c.w.heap.size ≤ b := by
      rcases h.post.z' b hb with (hz | ⟨k, k1, k2⟩) | ⟨i, hi⟩ | hs
      · exact .inl hz
      · obtain ⟨it, e, x, u, s, g1, g2, g3, g4, g5, g6, g7⟩ := h.lent.at k1
        cases ho : it.owns with
        | true => exact .inr (.inl ⟨k, it, g1, ho, k1⟩)
        | false =>
          have := h.froz hh
          rw [List.all_eq_true] at this
          exact absurd k1 (g5.frozen (this it (List.mem_of_getElem? g1)) ho b)
      · obtain ⟨hl, it, s, g1, g2, _, _⟩ := h.lent.sub hi
        exact .inr (.inl ⟨i, it, g1, g2, hl⟩)
      · exact .inr (.inr hs)
    refine ⟨ownAfter_none (h.post.zo b hb) fun hlt hnl => ?_, h.post.zs b hb, ?_⟩
    · rcases key with hz | hl | hs
      · exact h.lent.inv.zo b hz
      · exact absurd hl hnl
      · omega
    · rcases key with hz | ⟨k, it, g1, g2, g3⟩ | hs
      · exact .inl hz
      · obtain ⟨_, _, _, _, s, _, _, _, _, _, _, g7⟩ := h.lent.at g3
        exact .inr (.inl (by rw [g7]; simp))
      · exact .inr (.inr hs)
theorem Came.deep (h : Came c g its xs vs us us' L F w' out v O1 Z1 ys rt2) {s : S} {d : Nat} {x : s.T} {u : Value} {G : Fp} (hd : g.holds = false → s.depth ≤ d) (hr : Rep w' Z1 s d x u G) : Rep w' (zAfter g c Z1) s d x u G := by
  unfold zAfter
  cases hh : g.holds with
  | true => exact hr
  | false => exact Rep.deep (hd hh) (hd hh) hr
theorem holds_back {g : Sig} (h : g.holds = false) {k : Nat} {e : Ent} (he : (ents g.ps)[k]? = some e) (hb : e.back = true) {pc : PC} (hpc : e = .val pc ∨ e = .cell pc) : pc.s.depth ≤ pc.d2 := by
  have hm := ents_back he hb pc hpc
  unfold Sig.holds at h
  simp only [Bool.or_eq_false_iff, List.any_eq_false] at h
  have := h.2 pc hm
  simp only [Nat.blt_eq] at this
  omega
/-- what stands at a place that nothing owns stays -/
theorem Came.same_own (h : Came c g its xs vs us us' L F w' out v O1 Z1 ys rt2) {s : Site} (hs : ∀ n, s ≠ .det n) (hn : NoOwn its s) (b : Nat) : ownAfter c its L O1 b = some s ↔ c.O b = some s := by
  constructor
  · intro hb
    rcases ownAfter_some hb with ⟨k, _, k2⟩ | ⟨n, e, _⟩ | ⟨_, _, _, e⟩
    · obtain ⟨it, g1, g2, g3⟩ := convS_site k2
      exact absurd g3 (hn k it g1 g2)
    · exact absurd e (hs n)
    · exact e
  · intro hb
    exact (h.keep hb hn).2
theorem Came.rootVal (h : Came c g its xs vs us us' L F w' out v O1 Z1 ys rt2) {id : Nat} {r r2 : Root} (hr : c.rt id = some r) (hv : r2.virt = r.virt) {j : Nat} {x : VC} (hx : r.cells[j]? = some x) {rv : Value} (hrv : PV.rootVal c.w r (c.γ id) j = some rv) :
    ((∀ (k : Nat) n, its[k]? ≠ some (.box id n)) → PV.rootVal w' r2 (c.γ id) j = some rv) ∧
    (∀ (k : Nat) n, its[k]? = some (.box id n) → ∃ it' u', its[k + 1 + j]? = some it' ∧ it'.bcell = some (id, j) ∧ us[k + 1 + j]? = some rv ∧ us'[k + 1 + j]? = some u' ∧ PV.rootVal w' r2 (c.γ id) j = some u') := by
  refine ⟨fun hn => ?_, fun k n hk => ?_⟩
  · rw [← hrv]
    unfold PV.rootVal
    rw [hv]
    cases hvirt : r.virt with
    | true => rfl
    | false =>
      obtain ⟨b, ca, E, fz, h1, h2, h3, h4, h5⟩ := (h.lent.inv.root id r hr).box hvirt
      simp only [h1]
      refine cell_of_heap (h.keep ((h5 b).2 rfl) fun k it g1 g2 g3 => ?_).1
      cases it <;> simp only [It.owns, It.site, Option.some.injEq, reduceCtorEq, Site.box.injEq] at g2 g3
      subst g3
      exact hn k _ g1
  · obtain ⟨e, x', u, h1, h2, h3, h4⟩ := h.lent.all.at k _ hk
    cases e with
    | box m =>
      cases x' with
      | none =>
        obtain ⟨rfl, r', b, g1, g2, g3, g4, g5⟩ := h4
        rw [hr] at g1
        obtain rfl := Option.some.inj g1
        have hj : j < n := by rw [← g3]; exact (List.getElem?_eq_some_iff.1 hx).1
        obtain ⟨it', k1, k2⟩ := h.lent.box.down k id n hk j hj
        obtain ⟨e', x'', u2, m1, m2, m3, m4⟩ := h.lent.all.at _ _ k1
        have hu2 : u2 = rv := by
          cases it' with
          | bown id' j' pc =>
            simp only [It.bcell, Option.some.injEq, Prod.mk.injEq] at k2
            obtain ⟨rfl, rfl⟩ := k2
            cases e' with
            | cell pc' =>
              cases x'' with
              | some x'' =>
                obtain ⟨_, _, _, r', y, d, f1, _, _, _, f5, _⟩ := m4
                rw [hr] at f1
                obtain rfl := Option.some.inj f1
                rw [hrv] at f5
                exact (Option.some.inj f5).symm
              | none => exact m4.elim
            | _ => exact m4.elim
          | blk id' j' pc =>
            simp only [It.bcell, Option.some.injEq, Prod.mk.injEq] at k2
            obtain ⟨rfl, rfl⟩ := k2
            cases e' with
            | cell pc' =>
              cases x'' with
              | some x'' =>
                obtain ⟨_, _, _, r', y, f1, _, _, f5, _⟩ := m4
                rw [hr] at f1
                obtain rfl := Option.some.inj f1
                rw [hrv] at f5
                exact (Option.some.inj f5).symm
              | none => exact m4.elim
            | _ => exact m4.elim
          | _ => cases k2
        subst hu2
        obtain ⟨b', E, fz, f1, f2, f3, f4⟩ := flat_box h.post.flat k n h1
        have hb' : b' = b := by
          have := flat_same h.lent.flat h.post.flat k (fun pc hpc => by rw [h1] at hpc; cases hpc)
          rw [f1, h3, g5] at this
          simpa using this
        subst hb'
        have hlen := flat_len h.post.flat
        have hlt : k + 1 + j < us'.length := by
          rw [hlen]
          exact (List.getElem?_eq_some_iff.1 m1).1
        refine ⟨it', us'[k + 1 + j], k1, k2, m3, by simp [hlt], ?_⟩
        unfold PV.rootVal
        rw [hv, g2, g4, g5]
        simp only [World.cell?, f2]
        have e3 : ((us'.drop (k + 1)).take n)[j]? = some us'[k + 1 + j] := by
          rw [List.getElem?_take_of_lt hj, List.getElem?_drop]
          simp [hlt]
        simpa using e3
      | some _ => exact h4.elim
    | _ => exact h4.elim
/-- what a cell is to be -/
structure Aft (c : Cf) (w' : World) (Z' : Fp) (O' : Own) (id j : Nat) (rv' : Value) (x x2 : VC) (rv : Value) : Prop where
  own : ∀ d e, x2.c = .mk d e → Rep w' Z' e.s d e.x rv' (fun b => O' b = some (.cell id j))
  lk : ∀ e, x2.c = .lk e → Rep w' Z' e.s 0 e.x rv' nil'
  no : (∀ d e, x2.c ≠ .mk d e) → ∀ b, O' b ≠ some (.cell id j)
  al : ∀ a b st cut n, x2.c = .al a b st cut n → x.c = x2.c ∧ rv' = rv
theorem Came.cell (h : Came c g its xs vs us us' L F w' out v O1 Z1 ys rt2) {id : Nat} {r r2 : Root} (hr : c.rt id = some r) (hv : r2.virt = r.virt) {j : Nat} {x x2 : VC} (hx : r.cells[j]? = some x)
    (hold : (∀ (k : Nat) it, its[k]? = some it → it.at ≠ some (id, j)) → x2 = x) (hnew : ∀ (k : Nat) it y, its[k]? = some it → ys[k]? = some y → it.at = some (id, j) → newCell it x y = some x2)
    {rv : Value} (hrv : PV.rootVal c.w r (c.γ id) j = some rv) :
    ∃ rv', PV.rootVal w' r2 (c.γ id) j = some rv' ∧ CellCh c.w w' rv rv' x x2 ∧ Aft c w' (zAfter g c Z1) (ownAfter c its L O1) id j rv' x x2 rv := by
  obtain ⟨rA, rB⟩ := h.rootVal hr hv hx hrv
  obtain ⟨rv0, c1, c2⟩ := (h.lent.inv.root id r hr).cell j x hx
  rw [hrv] at c1
  obtain rfl := Option.some.inj c1
  obtain ⟨fl, ff⟩ := fill_at h.fill
  obtain ⟨ys', hys', hback⟩ := h.post.back
  rw [h.fill] at hys'
  obtain rfl := Option.some.inj hys'
  by_cases hex : ∃ (k : Nat) (it : It), its[k]? = some it ∧ it.at = some (id, j)
  · obtain ⟨k, it, hk, hat⟩ := hex
    obtain ⟨own1, own2⟩ := It.site_at hat
    obtain ⟨e, xx, u, a1, a2, a3, a4⟩ := h.lent.all.at k it hk
    have hfp := h.lent.fp k it e xx u hk a1 a2 a3
    have uniq : ∀ (k' : Nat) (it' : It), its[k']? = some it' → it'.owns = true → it'.site = some (.cell id j) → k' = k := fun k' it' q1 q2 q3 => h.lent.one k' k it' it _ q1 hk q2 own1 q3 own2
    have hyk : ∃ y, ys[k]? = some y := by
      have : k < ys.length := by rw [fl]; exact (List.getElem?_eq_some_iff.1 a1).1
      exact ⟨ys[k], by simp [this]⟩
    obtain ⟨y, hy⟩ := hyk
    have hnc := hnew k it y hk hy hat
    have hu' : ∃ u', us'[k]? = some u' := by
      have : k < us'.length := by rw [flat_len h.post.flat]; exact (List.getElem?_eq_some_iff.1 a1).1
      exact ⟨us'[k], by simp [this]⟩
    obtain ⟨u', hu'⟩ := hu'
    have hout := hback k e y u u' a1 hy a3 hu'
    -- what is laid into it is the item's own
    have hH : ∀ b, O1 b = some (.cell k 0) → ¬ (c.O b = some (.cell id j) ∧ ¬ L k b) := fun b hb ⟨q1, q2⟩ => by
      rcases (h.post.os b _ hb).2 with ⟨i, hi⟩ | hi
      · obtain ⟨hl, it', s, q3, q4, q5, q6⟩ := h.lent.sub hi
        rw [q1] at q6
        obtain rfl := Option.some.inj q6
        obtain rfl := uniq i it' q3 q4 q5
        exact q2 hl
      · have := h.lent.inv.os b _ q1
        omega
    have hrest : ∀ b, c.O b = some (.cell id j) → ¬ L k b → w'.heap[b]? = c.w.heap[b]? ∧ ownAfter c its L O1 b = some (.cell id j) := fun b q1 q2 => by
      have hlt := h.lent.inv.os b _ q1
      have hnf : ∀ i, ¬ F i b := fun i hi => by
        obtain ⟨hl, it', s, q3, q4, q5, q6⟩ := h.lent.sub hi
        rw [q1] at q6
        obtain rfl := Option.some.inj q6
        obtain rfl := uniq i it' q3 q4 q5
        exact q2 hl
      refine ⟨h.post.same b hlt hnf, (ownAfter_old (h.o1none hlt hnf) hlt ?_).trans q1⟩
      rintro ⟨k', it', q3, q4, q5⟩
      obtain ⟨it'', _, _, _, s, g1, _, _, _, _, g6, g7⟩ := h.lent.at q5
      rw [q3] at g1
      obtain rfl := Option.some.inj g1
      rw [q1] at g7
      obtain rfl := Option.some.inj g7
      obtain rfl := uniq k' it' q3 q4 g6
      exact q2 q5
    have hownSome : ∀ b, ownAfter c its L O1 b = some (.cell id j) → (O1 b = some (.cell k 0) ∧ convS its k = some (.cell id j)) ∨ (c.O b = some (.cell id j) ∧ ¬ L k b) := fun b hb => by
      rcases ownAfter_some hb with ⟨k', q1, q2⟩ | ⟨n, q1, _⟩ | ⟨_, _, q3, q4⟩
      · obtain ⟨it', q3, q4, q5⟩ := convS_site q2
        obtain rfl := uniq k' it' q3 q4 q5
        exact .inl ⟨q1, q2⟩
      · cases q1
      · exact .inr ⟨q4, fun hl => q3 ⟨k, it, hk, own1, hl⟩⟩
    cases it with
    | own id' j' st pc =>
      simp only [It.at, Option.some.injEq, Prod.mk.injEq] at hat
      obtain ⟨rfl, rfl⟩ := hat
      have nobox : ∀ (k0 : Nat) n, its[k0]? ≠ some (.box id' n) := fun k0 n hk0 => by
        obtain ⟨it', u2, q1, q2, _⟩ := rB k0 n hk0
        cases it' with
        | bown i1 j1 pc1 =>
          simp only [It.bcell, Option.some.injEq, Prod.mk.injEq] at q2
          obtain ⟨rfl, rfl⟩ := q2
          obtain rfl := uniq _ _ q1 rfl rfl
          rw [hk] at q1
          cases q1
        | blk i1 j1 pc1 =>
          simp only [It.bcell, Option.some.injEq, Prod.mk.injEq] at q2
          obtain ⟨rfl, rfl⟩ := q2
          exact h.lent.two k _ _ _ _ hk q1 own1 rfl own2 rfl
        | _ => cases q2
      have hrv' := rA nobox
      cases e with
      | val pc' =>
        cases xx with
        | some xx =>
          obtain ⟨rfl, b1, b2, b3, b4, b5, r', y0, d, k0, rv1, g1, g2, g3, g4, g5, g6, g7⟩ := a4
          rw [hr] at g1
          obtain rfl := Option.some.inj g1
          rw [hx] at g2
          obtain rfl := Option.some.inj g2
          rw [hrv] at g4
          obtain rfl := Option.some.inj g4
          rw [g3] at c2
          have c2 : Rep c.w c.Z k0.s d k0.x rv (fun b => c.O b = some (.cell id' j')) := c2
          have hnd : Nat.beq pc.d 0 = false := by
            cases hq : Nat.beq pc.d 0 with
            | false => rfl
            | true => exact absurd (Nat.eq_of_beq_eq_true hq) b3
          unfold newCell at hnc
          simp only [g3] at hnc
          cases hkept : pc.kept with
          | false =>
            obtain ⟨_, f2⟩ := ff k _ a1
            have hy0 := f2 (by simp [Ent.back, hkept])
            rw [hy] at hy0
            obtain rfl := Option.some.inj hy0
            simp only [hkept, cond_false, Option.some.injEq] at hnc
            subst hnc
            have hst : st = [] := b5.elim (fun q => by rw [hkept] at q; cases q) id
            refine ⟨rv, hrv', CellCh.bump (Nat.lt_succ_self _) (Nat.lt_succ_self _) fun q hq => (by rw [g3] at hq; cases hq), fun _ _ q => (by cases q), fun _ q => (by cases q), fun _ b hb => ?_, fun _ _ _ _ _ q => (by cases q)⟩
            rcases hownSome b hb with ⟨_, q2⟩ | ⟨q1, q2⟩
            · unfold convS at q2
              rw [hk] at q2
              simp only [hkept, cond_false] at q2
              cases q2
            · exact q2 (hfp.whole id' j' st pc rfl hst b q1)
          | true =>
            obtain ⟨f1, _⟩ := ff k _ a1
            obtain ⟨yv, hy0⟩ := f1 (by simp [Ent.back, hkept, hnd])
            rw [hy] at hy0
            obtain rfl := Option.some.inj hy0
            simp only [hkept, cond_true] at hnc
            have huu : u' = u := by
              have := flat_same h.lent.flat h.post.flat k (fun pc' hpc => by rw [a1] at hpc; cases hpc)
              rw [hu', a3] at this
              exact Option.some.inj this
            obtain ⟨o1, o2⟩ := hout
            obtain ⟨ysh, yx⟩ := yv
            simp only at o1 o2
            subst o1
            have o3 : Rep w' (zAfter g c Z1) pc.s pc.d2 yx u (fun b => O1 b = some (.cell k 0)) := h.deep (fun hh => holds_back hh a1 (by simp [Ent.back, hkept, hnd]) (.inl rfl)) o2
            have hconv : convS its k = some (.cell id' j') := by unfold convS; rw [hk]; simp only [hkept, cond_true]
            cases hz : setP k0.s k0.x st ⟨pc.s, yx⟩ with
            | none => rw [hz] at hnc; cases hnc
            | some z =>
              rw [hz] at hnc
              simp only at hnc
              -- the row's header is what it was
              have head : ∀ (d' : Nat) (G : Fp), Rep w' (zAfter g c Z1) k0.s d' z rv G → CellCh c.w w' rv rv x ⟨x.hv, x.iv + 1, .mk d' ⟨k0.s, z⟩⟩ := by
                intro d' G hrep
                refine ⟨Nat.le_refl _, Nat.le_succ _, fun _ cut v1 hro => ?_, fun q => absurd q (by simp), fun q => absurd q (by simp), fun q hq => (by rw [g3] at hq; cases hq)⟩
                unfold RefOk at hro ⊢
                simp only [g3] at hro
                simp only
                obtain ⟨v0, cs, xs', q1, q2, q3, q4, q5⟩ := hro
                obtain ⟨k0s, k0x⟩ := k0
                simp only [getP_nil, Option.some.injEq, CV.mk.injEq] at q3
                obtain ⟨rfl, q3⟩ := q3
                obtain rfl := eq_of_heq q3
                refine ⟨v0, cs, z, by simp only [inR], q2, getP_nil _ _, fun n hn => ?_, q5⟩
                rw [Rep.len_eq c2 hrep]
                exact q4 n hn
              cases st with
              | nil =>
                simp only [Option.some.injEq] at hnc
                subst hnc
                rw [setP_nil] at hz
                have hz2 := CV.as_some hz
                simp only [CV.mk.injEq] at hz2
                obtain ⟨hs2, hz3⟩ := hz2
                simp only [pv, Option.some.injEq] at g7
                subst g7
                obtain ⟨k0s, k0x⟩ := k0
                simp only at hs2
                subst hs2
                obtain rfl := eq_of_heq hz3
                have hfoot : (fun b => ownAfter c its L O1 b = some (.cell id' j')) = (fun b => O1 b = some (.cell k 0)) := by
                  funext b
                  apply propext
                  constructor
                  · intro hb
                    rcases hownSome b hb with ⟨q1, _⟩ | ⟨q1, q2⟩
                    · exact q1
                    · exact absurd (hfp.whole id' j' [] pc rfl rfl b q1) q2
                  · intro hb; exact (ownAfter_back hb).trans hconv
                refine ⟨rv, hrv', head _ _ o3, fun d1 e1 q => ?_, fun _ q => (by cases q), fun q => absurd rfl (q _ _), fun _ _ _ _ _ q => (by cases q)⟩
                simp only [Cell.mk.injEq] at q
                obtain ⟨rfl, rfl⟩ := q
                rw [hfoot]
                exact o3
              | cons q0 st =>
                simp only at hnc
                obtain ⟨hcond, hnc⟩ := cond_s hnc
                obtain rfl := Option.some.inj hnc
                have o4 : Rep w' (zAfter g c Z1) pc.s (d - (q0 :: st).length) yx u (fun b => O1 b = some (.cell k 0)) := by
                  simp only [Bool.or_eq_true, Nat.beq_eq, Bool.and_eq_true, Nat.ble_eq] at hcond
                  rcases hcond with hcond | ⟨q1, q2⟩
                  · rw [show d - (q0 :: st).length = pc.d2 by omega]; exact o3
                  · exact Rep.deep q1 (by omega) o3
                have hole := hfp.hole id' j' (q0 :: st) pc rfl (by simp) r x d k0 rv xx hr hx g3 hrv rfl
                obtain ⟨xs0, xx0⟩ := xx
                simp only at b1
                subst b1
                have hrep := hole w' (zAfter g c Z1) yx (fun b => O1 b = some (.cell k 0)) z hz (fun b hb => (hrest b hb.1 hb.2).1) (fun b hb => h.znext hb) (fun b hb => (h.zheap hb).1) o4 hH
                have hfoot : (fun b => ownAfter c its L O1 b = some (.cell id' j')) = (fun b => (c.O b = some (.cell id' j') ∧ ¬ L k b) ∨ O1 b = some (.cell k 0)) := by
                  funext b
                  apply propext
                  constructor
                  · intro hb
                    rcases hownSome b hb with ⟨q1, _⟩ | q1
                    · exact .inr q1
                    · exact .inl q1
                  · rintro (hb | hb)
                    · exact (hrest b hb.1 hb.2).2
                    · exact (ownAfter_back hb).trans hconv
                refine ⟨rv, hrv', head _ _ hrep, fun d1 e1 q => ?_, fun _ q => (by cases q), fun q => absurd rfl (q _ _), fun _ _ _ _ _ q => (by cases q)⟩
                simp only [Cell.mk.injEq] at q
                obtain ⟨rfl, rfl⟩ := q
                rw [hfoot]
                exact hrep
        | none => exact a4.elim
      | _ => exact a4.elim
    | bown id' j' pc =>
      simp only [It.at, Option.some.injEq, Prod.mk.injEq] at hat
      obtain ⟨rfl, rfl⟩ := hat
      obtain ⟨k0, n, q1, q2, q3⟩ := h.lent.box.up k _ id' j' hk rfl
      obtain ⟨it', u2, p1, p2, p3, p4, p5⟩ := rB k0 n q1
      rw [← q2] at p1 p3 p4
      rw [hu'] at p4
      obtain rfl := Option.some.inj p4
      cases e with
      | cell pc' =>
        cases xx with
        | some xx =>
          obtain ⟨rfl, b1, b2, r', y0, d, g1, g2, g3, g4, g5, g6⟩ := a4
          rw [hr] at g1
          obtain rfl := Option.some.inj g1
          rw [hx] at g3
          obtain rfl := Option.some.inj g3
          obtain ⟨f1, _⟩ := ff k _ a1
          obtain ⟨yv, hy0⟩ := f1 b1
          rw [hy] at hy0
          obtain rfl := Option.some.inj hy0
          obtain ⟨o1, o2⟩ := hout
          obtain ⟨ysh, yx⟩ := yv
          simp only at o1 o2
          subst o1
          have o3 : Rep w' (zAfter g c Z1) pc.s pc.d2 yx u' (fun b => O1 b = some (.cell k 0)) := h.deep (fun hh => holds_back hh a1 b1 (.inr rfl)) o2
          unfold newCell at hnc
          simp only [CV.as_self, Option.some.injEq] at hnc
          subst hnc
          have hconv : convS its k = some (.cell id' j') := by unfold convS; rw [hk]
          have hfoot : (fun b => ownAfter c its L O1 b = some (.cell id' j')) = (fun b => O1 b = some (.cell k 0)) := by
            funext b
            apply propext
            constructor
            · intro hb
              rcases hownSome b hb with ⟨q1, _⟩ | ⟨q1, q2⟩
              · exact q1
              · exact absurd (hfp.wholeB id' j' pc rfl b q1) q2
            · intro hb; exact (ownAfter_back hb).trans hconv
          refine ⟨u', p5, CellCh.bump (Nat.lt_succ_self _) (Nat.lt_succ_self _) fun q hq => (by rw [g4] at hq; cases hq), fun d1 e1 q => ?_, fun _ q => (by cases q), fun q => absurd rfl (q _ _), fun _ _ _ _ _ q => (by cases q)⟩
          simp only [Cell.mk.injEq] at q
          obtain ⟨rfl, rfl⟩ := q
          rw [hfoot]
          cases hrow : pc.s.isRow with
          | true => exact o3
          | false =>
            have hd : pc.s.depth = 0 := by cases hq : pc.s <;> first | rfl | (rw [hq] at hrow; cases hrow)
            exact Rep.deep (s := pc.s) (by rw [hd]; exact Nat.zero_le _) (by rw [hd]; exact Nat.zero_le _) o3
        | none => exact a4.elim
      | _ => exact a4.elim
    | _ => cases hat
  · have hex : ∀ (k : Nat) it, its[k]? = some it → it.at ≠ some (id, j) := fun k it q1 q2 => hex ⟨k, it, q1, q2⟩
    obtain rfl := hold hex
    have hno : NoOwn its (.cell id j) := fun k it q1 q2 q3 => hex k it q1 (It.at_site q2 q3)
    have hrv' : PV.rootVal w' r2 (c.γ id) j = some rv := by
      by_cases hbx : ∃ (k n : Nat), its[k]? = some (.box id n)
      · obtain ⟨k, n, hk⟩ := hbx
        obtain ⟨it', u', p1, p2, p3, p4, p5⟩ := rB k n hk
        cases it' with
        | bown i1 j1 pc1 =>
          simp only [It.bcell, Option.some.injEq, Prod.mk.injEq] at p2
          obtain ⟨rfl, rfl⟩ := p2
          exact absurd rfl (hex _ _ p1)
        | blk i1 j1 pc1 =>
          simp only [It.bcell, Option.some.injEq, Prod.mk.injEq] at p2
          obtain ⟨rfl, rfl⟩ := p2
          obtain ⟨e, xx, u, a1, a2, a3, a4⟩ := h.lent.all.at _ _ p1
          cases e with
          | cell pc' =>
            cases xx with
            | some xx =>
              obtain ⟨rfl, b1, _⟩ := a4
              have hy : ys[k + 1 + j1]? = some none := (ff _ _ a1).2 b1
              rw [p3] at a3
              obtain rfl := Option.some.inj a3
              have hout : u' = rv := hback _ _ _ _ _ a1 hy p3 p4
              rw [hout] at p5
              exact p5
            | none => exact a4.elim
          | _ => exact a4.elim
        | _ => cases p2
      · exact rA fun k n hk => hbx ⟨k, n, hk⟩
    have hfoot : (fun b => ownAfter c its L O1 b = some (.cell id j)) = (fun b => c.O b = some (.cell id j)) := by
      funext b; exact propext (h.same_own (by simp) hno b)
    have hheap : ∀ b, c.O b = some (.cell id j) ∨ c.Z b → w'.heap[b]? = c.w.heap[b]? := fun b hb => hb.elim (fun hb => (h.keep hb hno).1) fun hb => (h.zheap hb).1
    refine ⟨rv, hrv', CellCh.same (Z := c.Z) (F := fun b => c.O b = some (.cell id j)) (fun d e q => by rw [q] at c2; exact c2) hheap, fun d e q => ?_, fun e q => ?_, fun q b hb => ?_, fun _ _ _ _ _ _ => ⟨rfl, rfl⟩⟩
    · rw [hfoot]
      rw [q] at c2
      exact Rep.frame (fun b hb => h.znext hb) (show Rep c.w c.Z e.s d e.x rv (fun b => c.O b = some (.cell id j)) from c2) hheap
    · rw [q] at c2
      exact Rep.frame (fun b hb => h.znext hb) c2.1 fun b hb => hb.elim (fun hb => hb.elim) fun hb => (h.zheap hb).1
    · have hb := (h.same_own (s := .cell id j) (by simp) hno b).1 hb
      cases hxc : x2.c with
      | mk d e => exact q d e hxc
      | lk e => rw [hxc] at c2; exact c2.2 b hb
      | any => rw [hxc] at c2; exact c2 b hb
      | al => rw [hxc] at c2; exact c2.1 b hb
end
end Go.PV

/- Behind a call: a state, and the results under names of their own. -/
namespace Go.PV
section
variable {c : Cf} {g : Sig} {its : List It} {xs : List (Option CV)} {vs us us' : List Value} {L F : Nat → Fp} {w' : World} {out : TupT g.outs} {v : Value} {O1 : Own} {Z1 : Fp} {ys : List (Option CV)} {rt2 : Rt}
noncomputable abbrev after (c : Cf) (g : Sig) (its : List It) (L : Nat → Fp) (w' : World) (O1 : Own) (Z1 : Fp) (rt2 : Rt) : Cf := ⟨rt2, w', c.γ, ownAfter c its L O1, zAfter g c Z1⟩
theorem Came.uniq (h : Came c g its xs vs us us' L F w' out v O1 Z1 ys rt2) : ∀ (k k' : Nat) it it' q, its[k]? = some it → its[k']? = some it' → it.at = some q → it'.at = some q → k = k' := by
  intro k k' it it' q h1 h2 h3 h4
  obtain ⟨id, j⟩ := q
  obtain ⟨a1, a2⟩ := It.site_at h3
  obtain ⟨b1, b2⟩ := It.site_at h4
  exact h.lent.one k k' it it' _ h1 h2 a1 b1 a2 b2
theorem Came.chg (h : Came c g its xs vs us us' L F w' out v O1 Z1 ys rt2) : Chg c (after c g its L w' O1 Z1 rt2) := by
  obtain ⟨_, b2, b3⟩ := back_spec h.back h.uniq
  refine ⟨fun b hb => h.znext hb, fun b hb => (h.zheap hb).1, fun id r hr => ?_⟩
  obtain ⟨r2, g1, g2, g3, g4⟩ := b3 id r hr
  refine ⟨r2, g1, g2, rfl, fun j x rv hx hrv => ?_⟩
  obtain ⟨x2, k1, k2, k3⟩ := g4 j x hx
  obtain ⟨rv', m1, m2, _⟩ := h.cell hr g2 hx k2 k3 hrv
  exact ⟨x2, rv', k1, m1, m2⟩
theorem Came.inv (h : Came c g its xs vs us us' L F w' out v O1 Z1 ys rt2) : (after c g its L w' O1 Z1 rt2).Inv := by
  obtain ⟨_, b2, b3⟩ := back_spec h.back h.uniq
  obtain ⟨ys', hys', hback⟩ := h.post.back
  rw [h.fill] at hys'
  obtain rfl := Option.some.inj hys'
  obtain ⟨fl, ff⟩ := fill_at h.fill
  have boxIn : ∀ (k : Nat) id n, its[k]? = some (It.box id n) → ∃ r b, c.rt id = some r ∧ r.virt = false ∧ r.cells.length = n ∧ c.γ id = .pointer (some ⟨b, 0, none⟩) ∧ us[k]? = some (.pointer (some ⟨b, 0, none⟩)) ∧ (ents g.ps)[k]? = some (.box n) := fun k id n hk => by
    obtain ⟨e, x', u, h1, h2, h3, h4⟩ := h.lent.all.at k _ hk
    cases e with
    | box m =>
      cases x' with
      | none =>
        obtain ⟨rfl, r, b, g1, g2, g3, g4, g5⟩ := h4
        exact ⟨r, b, g1, g2, g3, g4.trans g5, by rw [h3, g5], h1⟩
      | some _ => exact h4.elim
    | _ => exact h4.elim
  have cellIn : ∀ (k : Nat) it id j, its[k]? = some it → it.at = some (id, j) → ∃ r x, c.rt id = some r ∧ r.cells[j]? = some x := fun k it id j hk hat => by
    obtain ⟨e, x', u, h1, h2, h3, h4⟩ := h.lent.all.at k _ hk
    cases it with
    | own id' j' st pc =>
      simp only [It.at, Option.some.injEq, Prod.mk.injEq] at hat
      obtain ⟨rfl, rfl⟩ := hat
      cases e with
      | val pc' =>
        cases x' with
        | some x' =>
          obtain ⟨_, _, _, _, _, _, r, y, d, k0, rv, g1, g2, _⟩ := h4
          exact ⟨r, y, g1, g2⟩
        | none => exact h4.elim
      | _ => exact h4.elim
    | bown id' j' pc =>
      simp only [It.at, Option.some.injEq, Prod.mk.injEq] at hat
      obtain ⟨rfl, rfl⟩ := hat
      cases e with
      | cell pc' =>
        cases x' with
        | some x' =>
          obtain ⟨_, _, _, r, y, d, g1, _, g2, _⟩ := h4
          exact ⟨r, y, g1, g2⟩
        | none => exact h4.elim
      | _ => exact h4.elim
    | _ => cases hat
  have back : ∀ id r2, rt2 id = some r2 → ∃ r, c.rt id = some r ∧ r2.virt = r.virt ∧ r2.cells.length = r.cells.length ∧ ∀ (j : Nat) x, r.cells[j]? = some x → ∃ x2, r2.cells[j]? = some x2 ∧
      ((∀ (k : Nat) it, its[k]? = some it → it.at ≠ some (id, j)) → x2 = x) ∧ ∀ (k : Nat) it y, its[k]? = some it → ys[k]? = some y → it.at = some (id, j) → newCell it x y = some x2 := fun id r2 hr2 => by
    cases hr : c.rt id with
    | none => rw [b2 id hr] at hr2; cases hr2
    | some r =>
      obtain ⟨r2', g1, g2, g3, g4⟩ := b3 id r hr
      rw [hr2] at g1
      obtain rfl := Option.some.inj g1
      exact ⟨r, rfl, g2, g3, g4⟩
  refine ⟨fun id r2 hr2 => ?_, fun b hb => (h.znone hb).1, fun b hb => (h.znone hb).2.1, fun b s hb => ?_, fun b id j hb => ?_, fun b id hb => ?_⟩
  · obtain ⟨r, hr, g2, g3, g4⟩ := back id r2 hr2
    have hk := h.lent.inv.root id r hr
    refine ⟨fun hv => ⟨by rw [g3]; exact (hk.virt (g2.symm.trans hv)).1, fun b hb => ?_⟩, fun hv => ?_, fun j x2 hx2 => ?_, fun j hj b hb => ?_⟩
    · rcases ownAfter_some hb with ⟨k, _, q2⟩ | ⟨n, q1, _⟩ | ⟨_, _, _, q4⟩
      · obtain ⟨it, q3, q4, q5⟩ := convS_site q2
        cases it <;> simp only [It.owns, It.site, Option.some.injEq, reduceCtorEq, Site.box.injEq, Bool.false_eq_true] at q4 q5
        subst q5
        obtain ⟨r', _, m1, m2, _⟩ := boxIn k _ _ q3
        rw [hr] at m1
        obtain rfl := Option.some.inj m1
        rw [← g2, hv] at m2
        cases m2
      · cases q1
      · exact (hk.virt (g2.symm.trans hv)).2 b q4
    · obtain ⟨b, ca, E, fz, f1, f2, f3, f4, f5⟩ := hk.box (g2.symm.trans hv)
      by_cases hbx : ∃ (k n : Nat), its[k]? = some (.box id n)
      · obtain ⟨k, n, hk0⟩ := hbx
        obtain ⟨r', b', m1, m2, m3, m4, m5, m6⟩ := boxIn k id n hk0
        rw [hr] at m1
        obtain rfl := Option.some.inj m1
        rw [f1] at m4
        obtain rfl : b = b' := by simpa using m4
        obtain ⟨b1, E', fz', p1, p2, p3, p4⟩ := flat_box h.post.flat k n m6
        have hb1 : b1 = b := by
          have := flat_same h.lent.flat h.post.flat k (fun pc hpc => by rw [m6] at hpc; cases hpc)
          rw [p1, m5] at this
          simpa using this
        subst hb1
        refine ⟨b1, _, E', fz', f1, p2, by simp only [List.size_toArray, p4, g3, m3], by simp only [List.size_toArray, p4]; exact p3, fun b' => ?_⟩
        have hyk : ∃ y, ys[k]? = some y := by
          have : k < ys.length := by rw [fl]; exact (List.getElem?_eq_some_iff.1 m6).1
          exact ⟨ys[k], by simp [this]⟩
        obtain ⟨y, hy⟩ := hyk
        have hout := hback k _ y _ _ m6 hy m5 p1
        have hH : ∃ b, (.pointer (some ⟨b1, 0, none⟩) : Value) = .pointer (some ⟨b, 0, none⟩) ∧ (fun b' => O1 b' = some (.cell k 0)) = fun b' => b' = b := hout
        obtain ⟨b3, q1, q2⟩ := hH
        obtain rfl : b1 = b3 := by simpa using q1
        have q2' : ∀ b', O1 b' = some (.cell k 0) ↔ b' = b1 := fun b' => by have := congrFun q2 b'; simpa using this
        constructor
        · intro hb
          rcases ownAfter_some hb with ⟨k', e1, e2⟩ | ⟨n', e1, _⟩ | ⟨_, _, e3, e4⟩
          · obtain ⟨it, e3, e4, e5⟩ := convS_site e2
            obtain rfl := h.lent.one k' k it _ _ e3 hk0 e4 rfl e5 rfl
            exact (q2' b').1 e1
          · cases e1
          · have := (f5 b').1 e4
            subst this
            exfalso
            obtain ⟨e, x', u, a1, a2, a3, a4⟩ := h.lent.all.at k _ hk0
            exact e3 ⟨k, _, hk0, rfl, (h.lent.fp k _ e x' u hk0 a1 a2 a3).wholeX id n rfl b' e4⟩
        · intro hb
          refine (ownAfter_back ((q2' b').2 hb)).trans ?_
          unfold convS
          rw [hk0]
      · have hno : NoOwn its (.box id) := fun k it q1 q2 q3 => by
          cases it <;> simp only [It.owns, It.site, Option.some.injEq, reduceCtorEq, Site.box.injEq, Bool.false_eq_true] at q2 q3
          subst q3
          exact hbx ⟨k, _, q1⟩
        exact ⟨b, ca, E, fz, f1, ((h.keep ((f5 b).2 rfl) hno).1).trans f2, by rw [f3, g3], f4, fun b' => (h.same_own (by simp) hno b').trans (f5 b')⟩
    · have hjlt : j < r.cells.length := by rw [← g3]; exact (List.getElem?_eq_some_iff.1 hx2).1
      have hx : r.cells[j]? = some r.cells[j] := by simp [hjlt]
      obtain ⟨x2', k1, k2, k3⟩ := g4 j _ hx
      rw [hx2] at k1
      obtain rfl := Option.some.inj k1
      obtain ⟨rv, m1, m2⟩ := hk.cell j _ hx
      obtain ⟨rv', n1, n2, n3⟩ := h.cell hr g2 hx k2 k3 m1
      refine ⟨rv', n1, ?_⟩
      cases hxc : x2.c with
      | mk d e => exact n3.own d e hxc
      | lk e => exact ⟨n3.lk e hxc, n3.no fun d e' q => by rw [hxc] at q; cases q⟩
      | any => exact n3.no fun d e' q => by rw [hxc] at q; cases q
      | al a b st cut n =>
        obtain ⟨q1, rfl⟩ := n3.al a b st cut n hxc
        rw [q1, hxc] at m2
        exact ⟨n3.no fun d e' q => (by rw [hxc] at q; cases q), h.chg.stb _ _ m2.2⟩
    · rw [g3] at hj
      rcases ownAfter_some hb with ⟨k, _, q2⟩ | ⟨n, q1, _⟩ | ⟨_, _, _, q4⟩
      · obtain ⟨it, q3, q4, q5⟩ := convS_site q2
        obtain ⟨r', x', m1, m2⟩ := cellIn k it id j q3 (It.at_site q4 q5)
        rw [hr] at m1
        obtain rfl := Option.some.inj m1
        have := (List.getElem?_eq_some_iff.1 m2).1
        omega
      · cases q1
      · exact hk.beyond j hj b q4
  · rcases ownAfter_some hb with ⟨k, q1, _⟩ | ⟨n, _, q1⟩ | ⟨_, q2, _, _⟩
    · exact (h.post.os b _ q1).1
    · exact (h.post.os b _ q1).1
    · exact Nat.lt_of_lt_of_le q2 h.post.size
  · have key : c.rt id ≠ none := by
      rcases ownAfter_some hb with ⟨k, _, q2⟩ | ⟨n, q1, _⟩ | ⟨_, _, _, q4⟩
      · obtain ⟨it, q3, q4, q5⟩ := convS_site q2
        obtain ⟨r', x', m1, m2⟩ := cellIn k it id j q3 (It.at_site q4 q5)
        rw [m1]; simp
      · cases q1
      · exact h.lent.inv.oi b id j q4
    cases hr : c.rt id with
    | none => exact absurd hr key
    | some r => obtain ⟨r2, g1, _⟩ := b3 id r hr; show rt2 id ≠ none; rw [g1]; simp
  · have key : c.rt id ≠ none := by
      rcases ownAfter_some hb with ⟨k, _, q2⟩ | ⟨n, q1, _⟩ | ⟨_, _, _, q4⟩
      · obtain ⟨it, q3, q4, q5⟩ := convS_site q2
        cases it <;> simp only [It.owns, It.site, Option.some.injEq, reduceCtorEq, Site.box.injEq, Bool.false_eq_true] at q4 q5
        subst q5
        obtain ⟨r', _, m1, _⟩ := boxIn k _ _ q3
        rw [m1]; simp
      · cases q1
      · exact h.lent.inv.ob b id q4
    cases hr : c.rt id with
    | none => exact absurd hr key
    | some r => obtain ⟨r2, g1, _⟩ := b3 id r hr; show rt2 id ≠ none; rw [g1]; simp
theorem Came.to (h : Came c g its xs vs us us' L F w' out v O1 Z1 ys rt2) : To c (after c g its L w' O1 Z1 rt2) := by
  obtain ⟨_, b2, b3⟩ := back_spec h.back h.uniq
  refine ⟨h.inv, h.chg.lk, h.chg.stb, h.post.size, fun b hb hn => ?_, fun b hb => h.znext hb, fun b hb => (h.znone hb).2.2, fun id hid => ?_, h.post.env⟩
  · have hnf : ∀ i, ¬ F i b := fun i hi => by
      obtain ⟨_, it, s, _, _, _, q⟩ := h.lent.sub hi
      rw [hn] at q; cases q
    exact ⟨h.post.same b hb hnf, ownAfter_none (h.o1none hb hnf) fun _ _ => hn⟩
  · cases hr : c.rt id with
    | none => exact absurd hr hid
    | some r => obtain ⟨r2, g1, _⟩ := b3 id r hr; show rt2 id ≠ none; rw [g1]; simp
theorem after_det {b n : Nat} : ownAfter c its L O1 b = some (.det n) → O1 b = some (.det n) ∨ c.O b = some (.det n) := fun hb => by
  rcases ownAfter_some hb with ⟨k, _, q2⟩ | ⟨m, q1, q2⟩ | ⟨_, _, _, q4⟩
  · obtain ⟨it, _, q4, q5⟩ := convS_site q2
    cases it <;> simp [It.site] at q5
  · cases q1; exact .inl q2
  · exact .inr q4
end
/-! ### results -/
theorem row_to' {c : Cf} (hc : c.Inv) {id : Nat} (hid : c.rt id = none) {cs : SS} {d : Nat} {xs : List cs.T} {v : Value} {k : Nat} (hp : Rep c.w c.Z (.row cs) d xs v (fun b => c.O b = some (.det k))) :
    ∃ O', To c ⟨setRt c.rt id ⟨true, [⟨0, 0, .mk d ⟨.row cs, xs⟩⟩]⟩, c.w, upd c.γ id v, O', c.Z⟩ ∧ (∀ b n, O' b = some (.det n) ↔ c.O b = some (.det n) ∧ n ≠ k) ∧
      PRep1 (setRt c.rt id ⟨true, [⟨0, 0, .mk d ⟨.row cs, xs⟩⟩]⟩) c.w (upd c.γ id v) c.Z (.ref id 0 [] none 0) v := by
  obtain ⟨O', ⟨i1, l1, s1⟩, oN, oS⟩ := attach_to hc (id := id) hid (r := ⟨true, [⟨0, 0, .mk d ⟨.row cs, xs⟩⟩]⟩) (g := v) (fun j b => j = 0 ∧ c.O b = some (.det k)) nil'
    (fun j b h => ⟨k, h.2⟩) (fun i j b h1 h2 => h1.1.trans h2.1.symm) (fun _ => ⟨rfl, fun _ h => h⟩) (fun h => by cases h) (fun j b h => by simp [h.1]) (fun j x hx => by
      cases j with
      | zero =>
        simp only [List.getElem?_cons_zero, Option.some.injEq] at hx
        subst hx
        refine ⟨v, rfl, ?_⟩
        show Rep c.w c.Z (.row cs) d xs v (fun b => 0 = 0 ∧ c.O b = some (.det k))
        have : (fun b => (0 : Nat) = 0 ∧ c.O b = some (.det k)) = (fun b => c.O b = some (.det k)) := by funext b; simp
        rw [this]
        exact hp
      | succ j => simp at hx)
  refine ⟨O', To.attach (To.refl hc) i1 l1 s1 rfl rfl (fun i h => setRt_some h) (fun b hb hn => ?_), fun b n => ⟨fun hb => ?_, fun hb => ?_⟩, ⟨_, ⟨0, 0, .mk d ⟨.row cs, xs⟩⟩, v, setRt_self, rfl, ?_, ⟨Nat.le_refl _, (Rep.slice hp).1 rfl⟩, fun _ => ?_⟩⟩
  · exact (oN b (fun j h => by rw [hn] at h; cases h.2) (fun h => h)).trans hn
  · rcases oS b _ hb with ⟨j, e, _⟩ | ⟨e, _⟩ | ⟨e, hne, _⟩
    · cases e
    · cases e
    · exact ⟨e, fun hk => hne 0 ⟨rfl, by rw [← hk]; exact e⟩⟩
  · rw [oN b (fun j h => by rw [hb.1] at h; simp only [Option.some.injEq, Site.det.injEq] at h; exact hb.2 h.2) (fun h => h)]
    exact hb.1
  · simp [PV.rootVal, upd]
  · exact ⟨v, cs, xs, by simp only [inR], rfl, getP_nil _ _, (fun n h => by cases h), (cutV_none v).symm⟩
theorem ResC.len {w : World} {Z : Fp} {O : Own} : ∀ {l : List (S × Nat)} {i : Nat} {cs : List CV} {us : List Value}, ResC w Z O l i cs us → cs.length = l.length ∧ us.length = l.length
  | [], _, [], [], _ => ⟨rfl, rfl⟩
  | (s, d) :: l, i, c :: cs, u :: us, h => by
    obtain ⟨_, _, h⟩ := h
    obtain ⟨h1, h2⟩ := ResC.len h
    simp [h1, h2]
theorem ResC.map {w : World} {Z Z' : Fp} {O O' : Own} : ∀ {l : List (S × Nat)} {i : Nat} {cs : List CV} {us : List Value}, (∀ k, i ≤ k → k < i + l.length → ∀ b, O' b = some (.det (2 * k)) ↔ O b = some (.det (2 * k))) → (∀ s d, (s, d) ∈ l → ∀ (x : s.T) u G, Rep w Z s d x u G → Rep w Z' s d x u G) → ResC w Z O l i cs us → ResC w Z' O' l i cs us
  | [], _, [], [], _, _, _ => trivial
  | (s, d) :: l, i, c :: cs, u :: us, hO, hZ, h => by
    obtain ⟨h1, h2, h3⟩ := h
    obtain ⟨cs0, cx⟩ := c
    simp only at h1
    subst h1
    have e : (fun b => O' b = some (.det (2 * i))) = (fun b => O b = some (.det (2 * i))) := by funext b; exact propext (hO i (Nat.le_refl _) (by simp) b)
    refine ⟨rfl, by rw [e]; exact hZ _ d (by simp) _ _ _ h2, ResC.map (fun k h1 h2 b => hO k (by omega) (by simp only [List.length_cons]; omega) b) (fun s d hm => hZ s d (by simp [hm])) h3⟩
theorem ResC.at {w : World} {Z : Fp} {O : Own} : ∀ {l : List (S × Nat)} {i : Nat} {cs : List CV} {us : List Value}, ResC w Z O l i cs us → ∀ (j : Nat) s d, l[j]? = some (s, d) → ∃ c u, cs[j]? = some c ∧ us[j]? = some u ∧ c.s = s ∧ Rep w Z c.s d c.x u (fun b => O b = some (.det (2 * (i + j))))
  | [], _, [], [], _, j, _, _, hj => by simp at hj
  | (s, d) :: l, i, c :: cs, u :: us, h, 0, s', d', hj => by
    simp only [List.getElem?_cons_zero, Option.some.injEq, Prod.mk.injEq] at hj
    obtain ⟨rfl, rfl⟩ := hj
    exact ⟨c, u, rfl, rfl, h.1, h.2.1⟩
  | (s, d) :: l, i, c :: cs, u :: us, h, j + 1, s', d', hj => by
    simp only [List.getElem?_cons_succ] at hj ⊢
    obtain ⟨c', u', h1, h2, h3, h4⟩ := ResC.at h.2.2 j s' d' hj
    exact ⟨c', u', h1, h2, h3, by rw [show i + (j + 1) = i + 1 + j by omega]; exact h4⟩
theorem ResR.map {w : World} {Z Z' : Fp} {O O' : Own} : ∀ {rs : List (RK × List (S × Nat))} {i : Nat} {cs : List CV} {vs : List Value}, (∀ k, 2 * i ≤ k → ∀ b, O' b = some (.det k) ↔ O b = some (.det k)) → (∀ s d, (s, d) ∈ rs.flatMap (·.2) → ∀ (x : s.T) u G, Rep w Z s d x u G → Rep w Z' s d x u G) → ResR w Z O rs i cs vs → ResR w Z' O' rs i cs vs
  | [], _, [], [], _, _, _ => trivial
  | (k, l) :: rs, i, cs, v :: vs, hO, hZ, h => by
    obtain ⟨c1, c2, us, h1, h2, h0, h3, h4⟩ := h
    refine ⟨c1, c2, us, h1, ResC.map (fun k h1 h2 b => hO _ (by omega) b) (fun s d hm => hZ s d (by simp [hm])) h2, fun b k' hk1 hk2 hb => h0 b k' hk1 hk2 ((hO _ (by omega) b).1 hb), ?_, ResR.map (fun k hk b => hO k (by omega) b) (fun s d hm => hZ s d (by rw [List.flatMap_cons, List.mem_append]; exact .inr hm)) h4⟩
    cases k with
    | one => exact h3
    | agg => exact h3
    | ptr =>
      obtain ⟨b, E, fz, g1, g2, g3, g4⟩ := h3
      exact ⟨b, E, fz, g1, g2, g3, fun b' => (hO _ (by omega) b').trans (g4 b')⟩
theorem resCells_to {t : Nat} : ∀ {l : List (S × Nat)} {i : Nat} {c1 c2 : List CV} {us : List Value} {c : Cf} {ps : List P} {i' : Nat} {rt' : Rt} {cs' : List CV}, c.Inv → ResC c.w c.Z c.O l i c1 us → resCells c.rt t l i (c1 ++ c2) = some (ps, i', rt', cs') →
    ∃ γ' O', To c ⟨rt', c.w, γ', O', c.Z⟩ ∧ cs' = c2 ∧ i' = i + l.length ∧ ps.length = us.length ∧ (∀ (n : Nat) p u, ps[n]? = some p → us[n]? = some u → PRep1 rt' c.w γ' c.Z p u) ∧
      ∀ b n, O' b = some (.det n) ↔ c.O b = some (.det n) ∧ ∀ k, i ≤ k → k < i + l.length → n ≠ 2 * k
  | [], i, [], c2, [], c, ps, i', rt', cs', hc, hr, h => by
    simp only [resCells, List.nil_append, Option.some.injEq, Prod.mk.injEq] at h
    obtain ⟨rfl, rfl, rfl, rfl⟩ := h
    exact ⟨c.γ, c.O, To.refl hc, rfl, rfl, rfl, fun n p u hp => by simp at hp, fun b n => ⟨fun h => ⟨h, fun k h1 h2 => by simp at h2; omega⟩, fun h => h.1⟩⟩
  | (s, d) :: l, i, cv :: c1, c2, u :: us, c, ps, i', rt', cs', hc, hr, h => by
    obtain ⟨h1, h2, h3⟩ := hr
    obtain ⟨cs0, cx⟩ := cv
    simp only at h1
    subst h1
    simp only [List.cons_append, resCells] at h
    cases hb : (cs0.isRow && !(Nat.beq d 0)) with
    | true =>
      rw [hb] at h
      simp only at h
      cases cs0 with
      | row cs =>
        split at h
        · rename_i rt1 hn
          obtain ⟨hid, rfl⟩ := newRoot_some hn
          obtain ⟨O1, t1, o1, p1⟩ := row_to' hc hid h2
          split at h
          · rename_i ps2 r hrc
            obtain ⟨i2, rt2, cs2⟩ := r
            simp only [Option.some.injEq, Prod.mk.injEq] at h
            obtain ⟨rfl, rfl, rfl, rfl⟩ := h
            obtain ⟨γ', O', k1, k2, k3, k4, k5, k6⟩ := resCells_to (c := ⟨_, c.w, upd c.γ (fresh t i) u, O1, c.Z⟩) t1.inv (ResC.map (fun k hk1 hk2 b => (o1 b _).trans ⟨fun h => h.1, fun h => ⟨h, by omega⟩⟩) (fun _ _ _ _ _ _ h => h) h3) hrc
            refine ⟨γ', O', t1.trans k1, k2, by rw [k3, List.length_cons]; omega, by simp [k4], fun n p u' hp hu => ?_, fun b n => ?_⟩
            · cases n with
              | zero =>
                simp only [List.getElem?_cons_zero, Option.some.injEq] at hp hu
                subst hp
                subst hu
                exact k1.stb _ _ p1
              | succ n => exact k5 n p u' (by simpa using hp) (by simpa using hu)
            · rw [k6, o1]
              constructor
              · rintro ⟨⟨q1, q2⟩, q3⟩
                refine ⟨q1, fun k hk1 hk2 => ?_⟩
                rcases Nat.eq_or_lt_of_le hk1 with rfl | hlt
                · exact q2
                · exact q3 k hlt (by simp only [List.length_cons] at hk2; omega)
              · rintro ⟨q1, q2⟩
                exact ⟨⟨q1, q2 i (Nat.le_refl _) (by simp)⟩, fun k hk1 hk2 => q2 k (by omega) (by simp only [List.length_cons]; omega)⟩
          · cases h
        · cases h
      | _ => cases hb
    | false =>
      rw [hb] at h
      simp only at h
      have hnil : Rep c.w c.Z cs0 0 cx u nil' ∧ ∀ b, c.O b ≠ some (.det (2 * i)) := by
        simp only [Bool.and_eq_false_imp, Bool.not_eq_false', Nat.beq_eq] at hb
        cases hrow : cs0.isRow with
        | true =>
          have hd := hb hrow
          subst hd
          have e := h2.ro_nil'
          rw [e] at h2
          exact ⟨h2, fun b hbb => by have := congrFun e b; simp only [nil', eq_iff_iff, iff_false] at this; exact this hbb⟩
        | false =>
          have e := Rep.flat_nil hrow h2
          rw [e] at h2
          have hd : cs0.depth = 0 := by cases cs0 <;> first | rfl | cases hrow
          exact ⟨Rep.deep (by omega) (by omega) h2, fun b hbb => by have := congrFun e b; simp only [nil', eq_iff_iff, iff_false] at this; exact this hbb⟩
      split at h
      · rename_i ps2 r hrc
        obtain ⟨i2, rt2, cs2⟩ := r
        simp only [Option.some.injEq, Prod.mk.injEq] at h
        obtain ⟨rfl, rfl, rfl, rfl⟩ := h
        obtain ⟨γ', O', k1, k2, k3, k4, k5, k6⟩ := resCells_to hc h3 hrc
        refine ⟨γ', O', k1, k2, by rw [k3, List.length_cons]; omega, by simp [k4], fun n p u' hp hu => ?_, fun b n => ?_⟩
        · cases n with
          | zero =>
            simp only [List.getElem?_cons_zero, Option.some.injEq] at hp hu
            subst hp
            subst hu
            exact k1.stb (.cv ⟨cs0, cx⟩) u hnil.1
          | succ n => exact k5 n p u' (by simpa using hp) (by simpa using hu)
        · rw [k6]
          constructor
          · rintro ⟨q1, q3⟩
            refine ⟨q1, fun k hk1 hk2 => ?_⟩
            rcases Nat.eq_or_lt_of_le hk1 with rfl | hlt
            · intro e; subst e; exact hnil.2 b q1
            · exact q3 k hlt (by simp only [List.length_cons] at hk2; omega)
          · rintro ⟨q1, q2⟩
            exact ⟨q1, fun k hk1 hk2 => q2 k (by omega) (by simp only [List.length_cons]; omega)⟩
      · cases h
theorem boxOf_at : ∀ {l : List (S × Nat)} {c1 c2 : List CV} {vs : List VC} {cs' : List CV}, c1.length = l.length → boxOf l (c1 ++ c2) = some (vs, cs') → cs' = c2 ∧ vs.length = l.length ∧ ∀ (j : Nat) x, vs[j]? = some x → ∃ s d cv, l[j]? = some (s, d) ∧ c1[j]? = some cv ∧ x = ⟨0, 0, .mk d cv⟩
  | [], [], c2, vs, cs', _, h => by
    simp only [boxOf, List.nil_append, Option.some.injEq, Prod.mk.injEq] at h
    obtain ⟨rfl, rfl⟩ := h
    exact ⟨rfl, rfl, fun j x hx => by simp at hx⟩
  | [], _ :: _, _, _, _, hl, _ => by cases hl
  | _ :: _, [], _, _, _, hl, _ => by cases hl
  | (s, d) :: l, cv :: c1, c2, vs, cs', hl, h => by
    simp only [List.cons_append, boxOf] at h
    split at h
    · rename_i vs2 r hb
      simp only [Option.some.injEq, Prod.mk.injEq] at h
      obtain ⟨rfl, rfl⟩ := h
      obtain ⟨h1, h2, h3⟩ := boxOf_at (by simpa using hl) hb
      refine ⟨h1, by simp [h2], fun j x hx => ?_⟩
      cases j with
      | zero =>
        simp only [List.getElem?_cons_zero, Option.some.injEq] at hx
        exact ⟨s, d, cv, rfl, rfl, hx.symm⟩
      | succ j => exact h3 j x (by simpa using hx)
    · cases h
theorem PRepA.stb {c c' : Cf} {p : P} {u : Value} (st : ∀ p v, c.P1 p v → c'.P1 p v) (hp : PRepA c.rt c.w c.γ c.Z p u) : PRepA c'.rt c'.w c'.γ c'.Z p u := by
  cases p with
  | agg l => obtain ⟨ws, e1, e2, e3⟩ := hp; exact ⟨ws, e1, e2, fun i p u hp hu => st p u (e3 i p u hp hu)⟩
  | dead => exact st .dead u hp
  | und => exact st .und u hp
  | cv k => exact st (.cv k) u hp
  | e => exact st .e u hp
  | ref id j s cut v => exact st (.ref id j s cut v) u hp
  | addr id j s v => exact st (.addr id j s v) u hp
  | ra cs xs i j => exact st (.ra cs xs i j) u hp
  | tup l => exact st (.tup l) u hp
theorem box_to {c : Cf} (hc : c.Inv) {id : Nat} (hid : c.rt id = none) {l : List (S × Nat)} {i : Nat} {c1 c2 cs' : List CV} {us : List Value} {vcs : List VC} (h2 : ResC c.w c.Z c.O l i c1 us) (hbx : boxOf l (c1 ++ c2) = some (vcs, cs')) {v : Value} {b : Nat} {E : TypeId} {fz : Nat × Nat}
    (g1 : v = .pointer (some ⟨b, 0, none⟩)) (g2 : c.w.heap[b]? = some (.cells us.toArray E fz)) (g3 : free fz us.length) (g4 : ∀ b', c.O b' = some (.det (2 * i + 1)) ↔ b' = b) :
    ∃ O', To c ⟨setRt c.rt id ⟨false, vcs⟩, c.w, upd c.γ id v, O', c.Z⟩ ∧ (∀ b n, O' b = some (.det n) ↔ c.O b = some (.det n) ∧ n ≠ 2 * i + 1 ∧ ∀ k, i ≤ k → k < i + l.length → n ≠ 2 * k) ∧
      PRep1 (setRt c.rt id ⟨false, vcs⟩) c.w (upd c.γ id v) c.Z (.addr id 0 [] 0) v := by
  obtain ⟨hl1, hl2⟩ := h2.len
  obtain ⟨_, b2, b3⟩ := boxOf_at hl1 hbx
  obtain ⟨O', ⟨i1, l1, s1⟩, oN, oS⟩ := attach_to hc (id := id) hid (r := ⟨false, vcs⟩) (g := v) (fun j b => j < l.length ∧ c.O b = some (.det (2 * (i + j)))) (fun b => c.O b = some (.det (2 * i + 1)))
    (fun j b h => ⟨_, h.2⟩) (fun a j b h1 h2 => by
      have := h1.2.symm.trans h2.2
      simp only [Option.some.injEq, Site.det.injEq] at this
      omega) (fun h => by cases h) (fun _ => ⟨b, us.toArray, E, fz, g1, g2, by simp [hl2, b2], by simpa using g3, g4, fun j hj => by
        have := hj.2.symm.trans ((g4 b).2 rfl)
        simp only [Option.some.injEq, Site.det.injEq] at this
        omega, fun hz => (by have := hc.zo b hz; rw [(g4 b).2 rfl] at this; cases this), .inr ⟨_, (g4 b).2 rfl⟩⟩) (fun j b h => by rw [b2]; exact h.1) (fun j x hx => by
      obtain ⟨s, d, cv, e1, e2, rfl⟩ := b3 j x hx
      obtain ⟨cv', u, f1, f2, f3, f4⟩ := h2.at j s d e1
      rw [e2] at f1
      obtain rfl := Option.some.inj f1
      have hj := (List.getElem?_eq_some_iff.1 e1).1
      refine ⟨u, ?_, ?_⟩
      · simp only [PV.rootVal, g1, World.cell?, g2]
        simpa using f2
      · have : (fun b => j < l.length ∧ c.O b = some (.det (2 * (i + j)))) = (fun b => c.O b = some (.det (2 * (i + j)))) := by funext b; simp [hj]
        simp only [this]
        exact f4)
  refine ⟨O', To.attach (To.refl hc) i1 l1 s1 rfl rfl (fun i h => setRt_some h) (fun b hb hn => ?_), fun b' n => ⟨fun hb => ?_, fun hb => ?_⟩, ⟨_, setRt_self, rfl, b, by simp [upd, g1], g1⟩⟩
  · exact (oN b (fun j h => by rw [hn] at h; cases h.2) (fun h => by rw [hn] at h; cases h)).trans hn
  · rcases oS b' _ hb with ⟨j, e, _⟩ | ⟨e, _⟩ | ⟨e, hne, hnb⟩
    · cases e
    · cases e
    · refine ⟨e, fun hk => hnb (by rw [← hk]; exact e), fun k hk1 hk2 hk => hne (k - i) ⟨by omega, ?_⟩⟩
      rw [show i + (k - i) = k by omega, ← hk]
      exact e
  · rw [oN b' (fun j h => ?_) (fun h => ?_)]
    · exact hb.1
    · have := hb.1.symm.trans h.2
      simp only [Option.some.injEq, Site.det.injEq] at this
      exact hb.2.2 (i + j) (by omega) (by omega) this
    · have := hb.1.symm.trans h
      simp only [Option.some.injEq, Site.det.injEq] at this
      exact hb.2.1 this
theorem resAll_to {t : Nat} : ∀ {rs : List (RK × List (S × Nat))} {i : Nat} {cs : List CV} {vs : List Value} {c : Cf} {qs : List P} {rt' : Rt} {rest : List CV}, (∀ r ∈ rs, 0 < r.2.length) → c.Inv → ResR c.w c.Z c.O rs i cs vs → resAll c.rt t rs i cs = some (qs, rt', rest) →
    ∃ γ' O', To c ⟨rt', c.w, γ', O', c.Z⟩ ∧ qs.length = vs.length ∧ (∀ (n : Nat) p u, qs[n]? = some p → vs[n]? = some u → PRepA rt' c.w γ' c.Z p u) ∧
      ∀ b n, O' b = some (.det n) → c.O b = some (.det n) ∧ (n < 2 * i ∨ 2 * (i + (rs.flatMap (·.2)).length) ≤ n)
  | [], i, [], [], c, qs, rt', rest, _, hc, hr, h => by
    simp only [resAll, Option.some.injEq, Prod.mk.injEq] at h
    obtain ⟨rfl, rfl, rfl⟩ := h
    exact ⟨c.γ, c.O, To.refl hc, rfl, fun n p u hp => by simp at hp, fun b n h => ⟨h, by simp; omega⟩⟩
  | (k, l) :: rs, i, cs, v :: vs, c, qs, rt', rest, hp, hc, hr, h => by
    have hp0 : 0 < l.length := hp (k, l) (by simp)
    have hp' : ∀ r ∈ rs, 0 < r.2.length := fun r hr => hp r (by simp [hr])
    obtain ⟨c1, c2, us, rfl, h2, hodd, h3, h4⟩ := hr
    -- what is a row, or a struct
    have cells : ∀ {F : List P → P}, k ≠ RK.ptr → (∀ {rt w γ Z ps}, ps.length = us.length → (∀ (n : Nat) p u, ps[n]? = some p → us[n]? = some u → PRep1 rt w γ Z p u) → PRepA rt w γ Z (F ps) v) → (match resCells c.rt t l i (c1 ++ c2) with
        | some (ps, i', rt', cs') => match resAll rt' t rs i' cs' with
          | some (qs, r) => some (F ps :: qs, r)
          | none => none
        | none => none) = some (qs, rt', rest) → ∃ γ' O', To c ⟨rt', c.w, γ', O', c.Z⟩ ∧ qs.length = (v :: vs).length ∧ (∀ (n : Nat) p u, qs[n]? = some p → (v :: vs)[n]? = some u → PRepA rt' c.w γ' c.Z p u) ∧
      ∀ b n, O' b = some (.det n) → c.O b = some (.det n) ∧ (n < 2 * i ∨ 2 * (i + (((k, l) :: rs).flatMap (·.2)).length) ≤ n) := by
      intro F hk hF hs
      split at hs
      · rename_i ps i' rt1 cs1 hrc
        obtain ⟨γ1, O1, k1, rfl, rfl, k4, k5, k6⟩ := resCells_to hc h2 hrc
        split at hs
        · rename_i qs2 r hra
          obtain ⟨rt2, rest2⟩ := r
          simp only [Option.some.injEq, Prod.mk.injEq] at hs
          obtain ⟨rfl, rfl, rfl⟩ := hs
          obtain ⟨γ2, O2, m1, m2, m3, m4⟩ := resAll_to (c := ⟨rt1, c.w, γ1, O1, c.Z⟩) hp' k1.inv (ResR.map (fun k hk b => (k6 b k).trans ⟨fun h => h.1, fun h => ⟨h, fun k' h1 h2 => by omega⟩⟩) (fun _ _ _ _ _ _ h => h) h4) hra
          refine ⟨γ2, O2, k1.trans m1, by simp [m2], fun n p u hp hu => ?_, fun b n hb => ?_⟩
          · cases n with
            | zero =>
              simp only [List.getElem?_cons_zero, Option.some.injEq] at hp hu
              subst hp
              subst hu
              exact PRepA.stb (c := ⟨rt1, c.w, γ1, O1, c.Z⟩) (c' := ⟨rt2, c.w, γ2, O2, c.Z⟩) m1.stb (hF k4 k5)
            | succ n => exact m3 n p u (by simpa using hp) (by simpa using hu)
          · obtain ⟨q1, q2⟩ := m4 b n hb
            obtain ⟨q3, q4⟩ := (k6 b n).1 q1
            refine ⟨q3, ?_⟩
            simp only [List.flatMap_cons, List.length_append]
            rcases q2 with q2 | q2
            · by_cases hn : n < 2 * i
              · exact .inl hn
              · exfalso
                rcases Nat.mod_two_eq_zero_or_one n with h0 | h1
                · exact q4 (n / 2) (by omega) (by omega) (by omega)
                · exact hk (hodd b (n / 2) (by omega) (by omega) (by rw [show 2 * (n / 2) + 1 = n by omega]; exact q3)).1
            · exact .inr (by omega)
        · cases hs
      · cases hs
    simp only [resAll] at h
    cases k with
    | one =>
      refine cells (F := fun ps => match RK.one, ps with | .agg, ps => .agg ps | _, [p] => p | _, _ => .dead) (by simp) (fun {rt w γ Z ps} hl hP => ?_) h
      simp only at h3
      subst h3
      match ps, hl with
      | [p], _ => exact PRepA.of1 (hP 0 p v rfl rfl)
    | agg =>
      refine cells (F := fun ps => match RK.agg, ps with | .agg, ps => .agg ps | _, [p] => p | _, _ => .dead) (by simp) (fun {rt w γ Z ps} hl hP => ?_) h
      simp only at h3
      exact ⟨us.toArray, h3, by simp [hl], fun n p u hp hu => hP n p u hp (by simpa using hu)⟩
    | ptr =>
      simp only at h
      obtain ⟨b, E, fz, g1, g2, g3, g4⟩ := h3
      split at h
      · rename_i vcs cs1 hbx
        obtain ⟨e1, _, _⟩ := boxOf_at h2.len.1 hbx
        split at h
        · rename_i rt1 hn
          obtain ⟨hid, rfl⟩ := newRoot_some hn
          obtain ⟨O1, t1, o1, p1⟩ := box_to hc hid h2 hbx g1 g2 g3 g4
          split at h
          · rename_i qs2 r hra
            obtain ⟨rt2, rest2⟩ := r
            simp only [Option.some.injEq, Prod.mk.injEq] at h
            obtain ⟨rfl, rfl, rfl⟩ := h
            subst e1
            obtain ⟨γ2, O2, m1, m2, m3, m4⟩ := resAll_to (c := ⟨_, c.w, upd c.γ (fresh t i) v, O1, c.Z⟩) hp' t1.inv (ResR.map (fun k hk b => (o1 b k).trans ⟨fun h => h.1, fun h => ⟨h, by omega, fun k' h1 h2 => by omega⟩⟩) (fun _ _ _ _ _ _ h => h) h4) hra
            refine ⟨γ2, O2, t1.trans m1, by simp [m2], fun n p u hp hu => ?_, fun b' n hb => ?_⟩
            · cases n with
              | zero =>
                simp only [List.getElem?_cons_zero, Option.some.injEq] at hp hu
                subst hp
                subst hu
                exact PRepA.of1 (m1.stb _ _ p1)
              | succ n => exact m3 n p u (by simpa using hp) (by simpa using hu)
            · obtain ⟨q1, q2⟩ := m4 b' n hb
              obtain ⟨q3, q4, q5⟩ := (o1 b' n).1 q1
              refine ⟨q3, ?_⟩
              simp only [List.flatMap_cons, List.length_append]
              rcases q2 with q2 | q2
              · by_cases hn : n < 2 * i
                · exact .inl hn
                · exfalso
                  rcases Nat.mod_two_eq_zero_or_one n with h0 | h1
                  · exact q5 (n / 2) (by omega) (by omega) (by omega)
                  · have := (hodd b' (n / 2) (by omega) (by omega) (by rw [show 2 * (n / 2) + 1 = n by omega]; exact q3)).2
                    exact q4 (by omega)
              · exact .inr (by omega)
          · cases h
        · cases h
      · cases h
end Go.PV

/- A call of a function that keeps its promise. -/
namespace Go.PV
variable {Pg : Program} {cx : Cx}
theorem ofTup_of : ∀ {l : List S} {m : List CV} {t : TupT l}, tupOf l m = some t → ofTup l t = m
  | [], [], _, _ => rfl
  | [], _ :: _, _, h => by simp [tupOf] at h
  | [_], [], _, h => by simp [tupOf] at h
  | [s], [c], t, h => by
    simp only [tupOf] at h
    have := CV.as_some h
    subst this
    rfl
  | [_], _ :: _ :: _, _, h => by simp [tupOf] at h
  | _ :: _ :: _, [], _, h => by simp [tupOf] at h
  | s :: s2 :: l, c :: m, t, h => by
    simp only [tupOf] at h
    cases h1 : c.as s with
    | none => rw [h1] at h; cases h
    | some y =>
      rw [h1] at h
      simp only [Option.bind_some, Option.map_eq_some_iff] at h
      obtain ⟨z, h2, rfl⟩ := h
      have := CV.as_some h1
      subst this
      simp only [ofTup, ofTup_of h2]
theorem tupOf_of : ∀ {l : List S} {m : List CV}, m.map (·.s) = l → ∃ t, tupOf l m = some t
  | [], [], _ => ⟨(), rfl⟩
  | [], _ :: _, h => by simp at h
  | _ :: _, [], h => by simp at h
  | [s], [c], h => by
    simp only [List.map_cons, List.map_nil, List.cons.injEq, and_true] at h
    obtain ⟨cs, cx⟩ := c
    simp only at h
    subst h
    exact ⟨cx, CV.as_self _ _⟩
  | [_], _ :: _ :: _, h => by simp at h
  | s :: s2 :: l, c :: m, h => by
    simp only [List.map_cons, List.cons.injEq] at h
    obtain ⟨h1, h2⟩ := h
    obtain ⟨cs, cx⟩ := c
    simp only at h1
    subst h1
    obtain ⟨t, ht⟩ := tupOf_of h2
    exact ⟨(cx, t), by simp only [tupOf, CV.as_self, Option.bind_some, ht, Option.map_some]⟩
theorem freezeIts_to : ∀ {its : List It} {c : Cf} {rt' : Rt}, c.Inv → ND c.O → freezeIts c.rt its = some rt' → ∃ O' Z', To c ⟨rt', c.w, c.γ, O', Z'⟩ ∧ ND O'
  | [], c, rt', hc, nd, h => by
    simp only [freezeIts, Option.some.injEq] at h
    subst h
    exact ⟨c.O, c.Z, To.refl hc, nd⟩
  | it :: its, c, rt', hc, nd, h => by
    have fz : ∀ {id j n rt1}, freezeAt c.rt id j n = some rt1 → freezeIts rt1 its = some rt' → ∃ O' Z', To c ⟨rt', c.w, c.γ, O', Z'⟩ ∧ ND O' := by
      intro id j n rt1 h1 h2
      obtain ⟨O1, Z1, t1, d1⟩ := freeze_to hc h1
      obtain ⟨O2, Z2, t2, n2⟩ := freezeIts_to (c := ⟨rt1, c.w, c.γ, O1, Z1⟩) t1.inv (fun b k hb => nd b k ((d1 b k).1 hb)) h2
      exact ⟨O2, Z2, t1.trans t2, n2⟩
    cases it with
    | look id j st =>
      simp only [freezeIts] at h
      split at h
      · rename_i rt1 h1; exact fz h1 h
      · cases h
    | blk id j pc =>
      simp only [freezeIts] at h
      split at h
      · split at h
        · split at h
          · rename_i rt1 h1; exact fz h1 h
          · cases h
        · exact freezeIts_to hc nd h
      · cases h
    | _ => simp only [freezeIts] at h; exact freezeIts_to hc nd h
theorem PRep.ofA {c : Cf} {p : P} {v : Value} (h : PRepA c.rt c.w c.γ c.Z p v) : c.PR p v := by
  cases p <;> first | exact h | exact h.elim
theorem pack_rep {c : Cf} {ps : List P} {vs : List Value} (hl : ps.length = vs.length) (h : ∀ (n : Nat) p u, ps[n]? = some p → vs[n]? = some u → PRepA c.rt c.w c.γ c.Z p u) : c.PR (pack ps) (packV vs) := by
  match ps, vs, hl with
  | [], [], _ => exact ⟨#[], rfl, rfl, fun i p u hp => by simp at hp⟩
  | [p], [v], _ => exact PRep.ofA (h 0 p v rfl rfl)
  | p :: q :: ps, v :: u :: vs, hl => exact ⟨(v :: u :: vs).toArray, rfl, by simpa using hl.symm, fun i p u hp hu => h i p u hp (by simpa using hu)⟩
theorem call_ok (hcon : ∀ f, Contract Pg (cx.sig f) f (cx.call f)) (hsig : sigsOk cx) : CallOk Pg cx := by
  intro f ps vs dst c K r hc nd hlen hP h
  unfold callK at h
  split at h
  · cases h
  · rename_i rt0 hprep
    have hc0 : ∃ O0 Z0, To c ⟨rt0, c.w, c.γ, O0, Z0⟩ ∧ ND O0 := by
      unfold prepK at hprep
      cases hh : (cx.sig f).holds with
      | false =>
        rw [hh] at hprep
        simp only [cond_false, Option.some.injEq] at hprep
        subst hprep
        exact ⟨c.O, c.Z, To.refl hc, nd⟩
      | true =>
        rw [hh] at hprep
        simp only [cond_true] at hprep
        split at hprep
        · exact freezeIts_to hc nd hprep
        · cases hprep
    obtain ⟨O0, Z0, t0, nd0⟩ := hc0
    split at h
    · cases h
    · rename_i cs its hg
      obtain ⟨hb, h⟩ := cond_n h
      simp only [Bool.or_eq_false_iff, Bool.not_eq_false', Bool.and_eq_false_imp] at hb
      obtain ⟨hap, hfz⟩ := hb
      split at h
      · cases h
      · rename_i args hargs
        cases hcl : cx.call f args with
        | none => rw [hcl] at h; cases h
        | some out =>
          rw [hcl] at h
          simp only [Option.bind_some] at h
          split at h
          · cases h
          · rename_i ys hys
            split at h
            · cases h
            · rename_i rt1 hback
              split at h
              · cases h
              · rename_i rs rt2 rest hres
                obtain ⟨_, h⟩ := cond_s h
                obtain ⟨us, xs, g1, g2, g3, g4⟩ := gather_in (c := ⟨rt0, c.w, c.γ, O0, Z0⟩) t0.inv (vs := vs.toList) hg (by simpa using hlen) fun i p u hp hu => PR_stab t0.stb (hP i p u hp (by simpa using hu))
                obtain ⟨L, F, hL⟩ := lent_of t0.inv g1 g3 g4 hap
                have hpad : pad (ents (cx.sig f).ps) (ofTup (cx.sig f).ins args) = some xs := by rw [ofTup_of hargs]; exact g2
                obtain ⟨k1, k2⟩ := hcon f args out hcl
                refine ⟨k1, (k2 c.w (Zc ⟨rt0, c.w, c.γ, O0, Z0⟩ L F) F vs.toList us (hL.pre hpad)).mono fun e w' he => ?_⟩
                obtain ⟨v, rfl, O1, Z1, us', hpost⟩ := he
                refine ⟨v, rfl, ?_⟩
                have hcame : Came ⟨rt0, c.w, c.γ, O0, Z0⟩ (cx.sig f) its xs vs.toList us us' L F w' out v O1 Z1 ys rt1 := ⟨hL, hpost, hys, hback, hfz⟩
                have t1 := hcame.to
                obtain ⟨rv, r1, rfl⟩ := hpost.res
                have hdet : ∀ k b, ownAfter ⟨rt0, c.w, c.γ, O0, Z0⟩ its L O1 b = some (.det k) ↔ O1 b = some (.det k) := fun k b => ⟨fun hb => (after_det hb).elim id fun hb => absurd hb (nd0 b k), ownAfter_det⟩
                have r2 := ResR.map (Z' := zAfter (cx.sig f) ⟨rt0, c.w, c.γ, O0, Z0⟩ Z1) (O' := ownAfter ⟨rt0, c.w, c.γ, O0, Z0⟩ its L O1) (fun k _ b => hdet k b) (fun s d hm x u G hr => hcame.deep (fun hh => by
                  unfold Sig.holds at hh
                  simp only [Bool.or_eq_false_iff, List.any_eq_false] at hh
                  have := hh.1 (s, d) hm
                  simp only [Nat.blt_eq] at this
                  omega) hr) r1
                obtain ⟨γ', O', m1, m2, m3, m4⟩ := resAll_to (c := after ⟨rt0, c.w, c.γ, O0, Z0⟩ (cx.sig f) its L w' O1 Z1 rt1) (hsig f) t1.inv r2 hres
                refine ⟨pack rs, some rt2, ⟨rt2, w', γ', O', zAfter (cx.sig f) ⟨rt0, c.w, c.γ, O0, Z0⟩ Z1⟩, h, rfl, fun rt' e => Option.some.inj e, fun e => (by cases e), (t0.trans t1).trans m1, fun b n hb => ?_, pack_rep (c := ⟨rt2, w', γ', O', zAfter (cx.sig f) ⟨rt0, c.w, c.γ, O0, Z0⟩ Z1⟩) m2 m3⟩
                obtain ⟨q1, q2⟩ := m4 b n hb
                have := hpost.det b n ((hdet n b).1 q1)
                simp only [Sig.res] at this
                omega
end Go.PV

/- A loop's head, a join: some blocks stay, under other names; the others are forgotten. -/
namespace Go.PV
variable {cx : Cx}
/-! ### less is owned -/
theorem setRt_same {rt : Rt} {id : Nat} {r : Root} (h : rt id = some r) : setRt rt id r = rt := upd_self h
/-- pieces are what they were -/
def DetSame (O O' : Own) : Prop := ∀ b k, O' b = some (.det k) ↔ O b = some (.det k)
theorem weak_aux {id : Nat} {virt : Bool} : ∀ (l : List VC) (ds : List Nat) (pre : List VC) (c : Cf), c.Inv → c.rt id = some ⟨virt, pre ++ l⟩ → ∃ O' Z', To c ⟨setRt c.rt id ⟨virt, pre ++ PV.weaken l ds⟩, c.w, c.γ, O', Z'⟩ ∧ DetSame c.O O'
  | [], ds, pre, c, hc, hr => by
    have e : PV.weaken [] ds = [] := by cases ds <;> rfl
    rw [e, setRt_same hr]
    exact ⟨c.O, c.Z, To.refl hc, fun _ _ => Iff.rfl⟩
  | x :: l, [], pre, c, hc, hr => by
    have e : PV.weaken (x :: l) [] = x :: l := rfl
    rw [e, setRt_same hr]
    exact ⟨c.O, c.Z, To.refl hc, fun _ _ => Iff.rfl⟩
  | x :: l, d :: ds, pre, c, hc, hr => by
    have hx : (pre ++ x :: l)[pre.length]? = some x := by rw [List.getElem?_append_right (Nat.le_refl _)]; simp
    have key : ∀ x' : VC, PV.weaken (x :: l) (d :: ds) = x' :: PV.weaken l ds → (∃ O1 Z1, To c ⟨setRt c.rt id ⟨virt, pre ++ x' :: l⟩, c.w, c.γ, O1, Z1⟩ ∧ DetSame c.O O1) → ∃ O' Z', To c ⟨setRt c.rt id ⟨virt, pre ++ PV.weaken (x :: l) (d :: ds)⟩, c.w, c.γ, O', Z'⟩ ∧ DetSame c.O O' := by
      rintro x' e ⟨O1, Z1, t1, n1⟩
      obtain ⟨O2, Z2, t2, n2⟩ := weak_aux (id := id) (virt := virt) l ds (pre ++ [x']) ⟨setRt c.rt id ⟨virt, pre ++ x' :: l⟩, c.w, c.γ, O1, Z1⟩ t1.inv (by show setRt c.rt id _ id = _; rw [setRt_self]; simp)
      have e2 : pre ++ PV.weaken (x :: l) (d :: ds) = pre ++ [x'] ++ PV.weaken l ds := by rw [e]; simp
      rw [e2]
      simp only [setRt_set] at t2
      exact ⟨O2, Z2, t1.trans t2, fun b k => (n2 b k).trans (n1 b k)⟩
    cases hxc : x.c with
    | mk d0 k =>
      refine key ⟨x.hv, x.iv, .mk (min d0 d) k⟩ (by simp only [PV.weaken, hxc]) ?_
      have hca : cellAt c.rt id pre.length = some x := cellAt_eq hr hx
      have hfr : freezeAt c.rt id pre.length d = some (setRt c.rt id ⟨virt, pre ++ ⟨x.hv, x.iv, .mk (min d0 d) k⟩ :: l⟩) := by
        unfold freezeAt
        rw [hca]
        simp only [hxc]
        unfold setCellAt
        rw [hr]
        simp
      obtain ⟨O1, Z1, t1, d1⟩ := freeze_to hc hfr
      exact ⟨O1, Z1, t1, d1⟩
    | lk k => exact key x (by simp only [PV.weaken, hxc]; obtain ⟨a, b, q⟩ := x; simp only at hxc; subst hxc; rfl) ⟨c.O, c.Z, by rw [setRt_same hr]; exact To.refl hc, fun _ _ => Iff.rfl⟩
    | any => exact key x (by simp only [PV.weaken, hxc]; obtain ⟨a, b, q⟩ := x; simp only at hxc; subst hxc; rfl) ⟨c.O, c.Z, by rw [setRt_same hr]; exact To.refl hc, fun _ _ => Iff.rfl⟩
    | al a1 a2 a3 a4 a5 => exact key x (by simp only [PV.weaken, hxc]; obtain ⟨a, b, q⟩ := x; simp only at hxc; subst hxc; rfl) ⟨c.O, c.Z, by rw [setRt_same hr]; exact To.refl hc, fun _ _ => Iff.rfl⟩
def weakAll (rt : Rt) : List (Nat × List Nat) → Rt
  | [] => rt
  | (id, ds) :: l => match rt id with
    | some r => weakAll (setRt rt id ⟨r.virt, PV.weaken r.cells ds⟩) l
    | none => weakAll rt l
theorem weakAll_to : ∀ (l : List (Nat × List Nat)) (c : Cf), c.Inv → ∃ O' Z', To c ⟨weakAll c.rt l, c.w, c.γ, O', Z'⟩ ∧ DetSame c.O O'
  | [], c, hc => ⟨c.O, c.Z, To.refl hc, fun _ _ => Iff.rfl⟩
  | (id, ds) :: l, c, hc => by
    unfold weakAll
    cases hr : c.rt id with
    | none => exact weakAll_to l c hc
    | some r =>
      obtain ⟨O1, Z1, t1, n1⟩ := weak_aux r.cells ds [] c hc (virt := r.virt) hr
      obtain ⟨O2, Z2, t2, n2⟩ := weakAll_to l ⟨setRt c.rt id ⟨r.virt, PV.weaken r.cells ds⟩, c.w, c.γ, O1, Z1⟩ t1.inv
      exact ⟨O2, Z2, t1.trans t2, fun b k => (n2 b k).trans (n1 b k)⟩
theorem weakAll_other : ∀ (l : List (Nat × List Nat)) (rt : Rt) (id : Nat), id ∉ l.map (·.1) → weakAll rt l id = rt id
  | [], rt, id, _ => rfl
  | (a, ds) :: l, rt, id, h => by
    simp only [List.map_cons, List.mem_cons, not_or] at h
    unfold weakAll
    cases hr : rt a with
    | none => exact weakAll_other l rt id h.2
    | some r =>
      simp only
      rw [weakAll_other l _ id h.2, setRt_ne h.1]
theorem weakAll_at : ∀ (l : List (Nat × List Nat)) (rt : Rt) (id : Nat) (ds : List Nat) (r : Root), (l.map (·.1)).Nodup → (id, ds) ∈ l → rt id = some r → weakAll rt l id = some ⟨r.virt, PV.weaken r.cells ds⟩
  | (a, ds0) :: l, rt, id, ds, r, hn, hm, hr => by
    simp only [List.map_cons, List.nodup_cons] at hn
    simp only [List.mem_cons, Prod.mk.injEq] at hm
    unfold weakAll
    rcases hm with ⟨rfl, rfl⟩ | hm
    · rw [hr]
      simp only
      rw [weakAll_other l _ id hn.1, setRt_self]
    · have hne : id ≠ a := fun e => by subst e; exact hn.1 (List.mem_map.2 ⟨_, hm, rfl⟩)
      cases hra : rt a with
      | none => exact weakAll_at l rt id ds r hn.2 hm hr
      | some ra => exact weakAll_at l _ id ds r hn.2 hm (by rw [setRt_ne hne]; exact hr)
theorem weak_ver : ∀ (l : List VC) (ds : List Nat) (j : Nat), (PV.weaken l ds)[j]?.map (fun x => (x.hv, x.iv)) = l[j]?.map (fun x => (x.hv, x.iv))
  | [], ds, j => by cases ds <;> rfl
  | x :: l, [], j => rfl
  | x :: l, d :: ds, 0 => by simp [PV.weaken]
  | x :: l, d :: ds, j + 1 => by simp only [PV.weaken, List.getElem?_cons_succ]; exact weak_ver l ds j
/-- how often a row was replaced -/
def vers (rt : Rt) (id j : Nat) : Option (Nat × Nat) := (cellAt rt id j).map fun x => (x.hv, x.iv)
theorem weakAll_ver : ∀ (l : List (Nat × List Nat)) (rt : Rt) (id j : Nat), vers (weakAll rt l) id j = vers rt id j
  | [], rt, id, j => rfl
  | (a, ds) :: l, rt, id, j => by
    unfold weakAll
    cases hr : rt a with
    | none => exact weakAll_ver l rt id j
    | some r =>
      simp only
      rw [weakAll_ver l]
      unfold vers cellAt
      by_cases hid : id = a
      · subst hid
        rw [setRt_self, hr]
        exact weak_ver r.cells ds j
      · rw [setRt_ne hid]
theorem live_ver {rt rt' : Rt} (h : ∀ id j, vers rt' id j = vers rt id j) (keep : List Nat) (id j : Nat) (st : Way) (v : Nat) : liveRef rt' keep id j st v = liveRef rt keep id j st v := by
  have hv := h id j
  unfold vers at hv
  unfold liveRef
  cases h1 : cellAt rt id j with
  | none =>
    rw [h1] at hv
    cases h2 : cellAt rt' id j with
    | none => rfl
    | some x => rw [h2] at hv; cases hv
  | some x =>
    rw [h1] at hv
    cases h2 : cellAt rt' id j with
    | none => rw [h2] at hv; cases hv
    | some x' =>
      rw [h2] at hv
      simp only [Option.map_some, Option.some.injEq, Prod.mk.injEq] at hv
      simp only [VC.ok]
      rw [hv.1, hv.2]
/-! ### other names -/
structure En where
  id : Nat
  src : Option Nat
  r : Root
def viewRoot (rt : Rt) (keep : List Nat) (ren : Ren) (r : Root) : Root := ⟨r.virt, r.cells.map fun x => ⟨0, 0, normCell rt keep ren x.c⟩⟩
structure View (c : Cf) (E : List En) (G : Nat → Value) (keep : List Nat) (ren : Ren) (rt' : Rt) : Prop where
  e1 : ∀ e ∈ E, ∀ e' ∈ E, e.id = e'.id → e = e'
  e2 : ∀ e ∈ E, ∀ e' ∈ E, ∀ a, e.src = some a → e'.src = some a → e = e'
  e3 : ∀ a, memN a keep = true ↔ ∃ e ∈ E, e.src = some a
  e4 : ∀ e ∈ E, ∀ a, e.src = some a → renId ren a = e.id
  e5 : ∀ e ∈ E, ∀ a, e.src = some a → ∃ r0, c.rt a = some r0 ∧ e.r = viewRoot c.rt keep ren r0
  e6 : ∀ e ∈ E, e.src = none → ∃ d cs xs, e.r = rowRoot d cs xs ∧ Rep c.w c.Z (.row cs) d xs (G e.id) nil'
  e8 : ∀ e ∈ E, rt' e.id = some e.r
  e9 : ∀ id, (∀ e ∈ E, e.id ≠ id) → rt' id = none
def viewG (c : Cf) (E : List En) (G : Nat → Value) (id : Nat) : Value := match E.find? (fun e => e.id == id) with
  | some e => match e.src with
    | some a => c.γ a
    | none => G id
  | none => undef
def viewO (c : Cf) (keep : List Nat) (ren : Ren) : Own := fun b => match c.O b with
  | some (.cell a j) => bif memN a keep then some (.cell (renId ren a) j) else none
  | some (.box a) => bif memN a keep then some (.box (renId ren a)) else none
  | _ => none
section
variable {c : Cf} {E : List En} {G : Nat → Value} {keep : List Nat} {ren : Ren} {rt' : Rt}
theorem View.g (h : View c E G keep ren rt') {e : En} (he : e ∈ E) : viewG c E G e.id = (match e.src with | some a => c.γ a | none => G e.id) := by
  unfold viewG
  cases hf : E.find? (fun e' => e'.id == e.id) with
  | none =>
    have := List.find?_eq_none.1 hf e he
    simp at this
  | some e' =>
    have h1 := List.mem_of_find?_eq_some hf
    have h2 := List.find?_some hf
    simp only [beq_iff_eq] at h2
    obtain rfl := h.e1 e' h1 e he h2
    rfl
theorem viewO_some {b : Nat} {s : Site} (hs : viewO c keep ren b = some s) : (∃ a j, c.O b = some (.cell a j) ∧ memN a keep = true ∧ s = .cell (renId ren a) j) ∨ (∃ a, c.O b = some (.box a) ∧ memN a keep = true ∧ s = .box (renId ren a)) := by
  unfold viewO at hs
  split at hs
  · rename_i a j ho
    obtain ⟨hm, hs⟩ := cond_s hs
    exact .inl ⟨a, j, ho, hm, (Option.some.inj hs).symm⟩
  · rename_i a ho
    obtain ⟨hm, hs⟩ := cond_s hs
    exact .inr ⟨a, ho, hm, (Option.some.inj hs).symm⟩
  · cases hs
theorem View.own (h : View c E G keep ren rt') {e : En} (he : e ∈ E) : (∀ a, e.src = some a → (∀ b j, viewO c keep ren b = some (.cell e.id j) ↔ c.O b = some (.cell a j)) ∧ ∀ b, viewO c keep ren b = some (.box e.id) ↔ c.O b = some (.box a)) ∧
    (e.src = none → (∀ b j, viewO c keep ren b ≠ some (.cell e.id j)) ∧ ∀ b, viewO c keep ren b ≠ some (.box e.id)) := by
  have src : ∀ a, memN a keep = true → renId ren a = e.id → e.src = some a := fun a hm hr => by
    obtain ⟨e', h1, h2⟩ := (h.e3 a).1 hm
    have := h.e4 e' h1 a h2
    rw [hr] at this
    obtain rfl := h.e1 e he e' h1 this
    exact h2
  refine ⟨fun a ha => ⟨fun b j => ⟨fun hb => ?_, fun hb => ?_⟩, fun b => ⟨fun hb => ?_, fun hb => ?_⟩⟩, fun hn => ⟨fun b j hb => ?_, fun b hb => ?_⟩⟩
  · rcases viewO_some hb with ⟨a', j', h1, h2, h3⟩ | ⟨a', h1, h2, h3⟩
    · simp only [Site.cell.injEq] at h3
      have := src a' h2 h3.1.symm
      rw [ha] at this
      obtain rfl := Option.some.inj this
      rw [h1, h3.2]
    · cases h3
  · unfold viewO
    rw [hb]
    simp only
    rw [(h.e3 a).2 ⟨e, he, ha⟩, h.e4 e he a ha]
    rfl
  · rcases viewO_some hb with ⟨a', j', h1, h2, h3⟩ | ⟨a', h1, h2, h3⟩
    · cases h3
    · simp only [Site.box.injEq] at h3
      have := src a' h2 h3.symm
      rw [ha] at this
      obtain rfl := Option.some.inj this
      exact h1
  · unfold viewO
    rw [hb]
    simp only
    rw [(h.e3 a).2 ⟨e, he, ha⟩, h.e4 e he a ha]
    rfl
  · rcases viewO_some hb with ⟨a', j', h1, h2, h3⟩ | ⟨a', h1, h2, h3⟩
    · simp only [Site.cell.injEq] at h3
      have := src a' h2 h3.1.symm
      rw [hn] at this; cases this
    · cases h3
  · rcases viewO_some hb with ⟨a', j', h1, h2, h3⟩ | ⟨a', h1, h2, h3⟩
    · cases h3
    · simp only [Site.box.injEq] at h3
      have := src a' h2 h3.symm
      rw [hn] at this; cases this
theorem View.rootVal (h : View c E G keep ren rt') {e : En} (he : e ∈ E) {a : Nat} (ha : e.src = some a) {r0 : Root} (hv : e.r.virt = r0.virt) (j : Nat) : PV.rootVal c.w e.r (viewG c E G e.id) j = PV.rootVal c.w r0 (c.γ a) j := by
  have := h.g he
  rw [ha] at this
  simp only at this
  rw [this]
  unfold PV.rootVal
  rw [hv]
theorem View.p1 (h : View c E G keep ren rt') {p : P} {u : Value} (hp : c.P1 p u) : PRep1 rt' c.w (viewG c E G) c.Z (normP1 c.rt keep ren p) u := by
  cases p with
  | dead => trivial
  | und => exact hp
  | e => exact hp
  | cv k => exact hp
  | ra cs xs i j => exact hp
  | agg l => exact hp.elim
  | tup l => exact hp.elim
  | ref id j st cut v =>
    simp only [normP1]
    cases hl : liveRef c.rt keep id j st v with
    | false => trivial
    | true =>
      simp only [cond_true]
      unfold liveRef at hl
      simp only [Bool.and_eq_true] at hl
      obtain ⟨hm, hok⟩ := hl
      obtain ⟨r, x, rv, h1, h2, h3, h4, h5⟩ := hp
      rw [cellAt_eq h1 h2] at hok
      simp only at hok
      have hver : v = x.ver st := by
        unfold VC.ok at hok
        unfold VC.ver
        cases st <;> exact Nat.eq_of_beq_eq_true hok
      obtain ⟨e, he, ha⟩ := (h.e3 id).1 hm
      obtain ⟨r0, g1, g2⟩ := h.e5 e he id ha
      rw [h1] at g1
      obtain rfl := Option.some.inj g1
      rw [h.e4 e he id ha]
      refine ⟨e.r, ⟨0, 0, normCell c.rt keep ren x.c⟩, rv, h.e8 e he, ?_, ?_, ⟨Nat.zero_le _, h4.2⟩, fun _ => ?_⟩
      · rw [g2]; simp only [viewRoot, List.getElem?_map, h2, Option.map_some]
      · exact (h.rootVal he ha (by rw [g2]; rfl) j).trans h3
      · have hr := h5 hver
        unfold RefOk at hr ⊢
        cases hxc : x.c with
        | mk d k => rw [hxc] at hr; exact hr
        | lk k => rw [hxc] at hr; exact hr.elim
        | any => rw [hxc] at hr; exact hr
        | al a1 a2 a3 a4 a5 =>
          rw [hxc] at hr
          simp only [normCell]
          cases liveRef c.rt keep a1 a2 a3 a5 <;> exact hr
  | addr id j st v =>
    cases st with
    | nil =>
      simp only [normP1]
      cases hm : memN id keep with
      | false => trivial
      | true =>
        simp only [cond_true]
        obtain ⟨r, h1, h2, b, h3, h4⟩ := hp
        obtain ⟨e, he, ha⟩ := (h.e3 id).1 hm
        obtain ⟨r0, g1, g2⟩ := h.e5 e he id ha
        rw [h1] at g1
        obtain rfl := Option.some.inj g1
        rw [h.e4 e he id ha]
        refine ⟨e.r, h.e8 e he, by rw [g2]; exact h2, b, ?_, h4⟩
        have := h.g he
        rw [ha] at this
        exact this.trans h3
    | cons q st =>
      simp only [normP1]
      cases hl : liveRef c.rt keep id j (q :: st) v with
      | false => trivial
      | true =>
        simp only [cond_true]
        unfold liveRef at hl
        simp only [Bool.and_eq_true] at hl
        obtain ⟨hm, hok⟩ := hl
        obtain ⟨r, h1, x, rv, h2, h3, h4, h5⟩ := hp
        rw [cellAt_eq h1 h2] at hok
        have hver : v = x.iv := Nat.eq_of_beq_eq_true hok
        obtain ⟨e, he, ha⟩ := (h.e3 id).1 hm
        obtain ⟨r0, g1, g2⟩ := h.e5 e he id ha
        rw [h1] at g1
        obtain rfl := Option.some.inj g1
        rw [h.e4 e he id ha]
        refine ⟨e.r, h.e8 e he, ⟨0, 0, normCell c.rt keep ren x.c⟩, rv, ?_, ?_, ⟨Nat.zero_le _, h4.2⟩, fun _ => ?_⟩
        · rw [g2]; simp only [viewRoot, List.getElem?_map, h2, Option.map_some]
        · exact (h.rootVal he ha (by rw [g2]; rfl) j).trans h3
        · have hr := h5 hver
          unfold AddrOk at hr ⊢
          cases hxc : x.c with
          | mk d k => rw [hxc] at hr; exact hr
          | lk k => rw [hxc] at hr; exact hr.elim
          | any => rw [hxc] at hr; exact hr.elim
          | al => rw [hxc] at hr; exact hr.elim
theorem View.inv (h : View c E G keep ren rt') (hc : c.Inv) : Inv rt' c.w (viewG c E G) (viewO c keep ren) c.Z := by
  have ids : ∀ id r, rt' id = some r → ∃ e ∈ E, e.id = id ∧ e.r = r := fun id r hr => by
    by_cases hex : ∃ e ∈ E, e.id = id
    · obtain ⟨e, he, rfl⟩ := hex
      rw [h.e8 e he] at hr
      exact ⟨e, he, rfl, Option.some.inj hr⟩
    · rw [h.e9 id fun e he hid => hex ⟨e, he, hid⟩] at hr; cases hr
  have site : ∀ b s, viewO c keep ren b = some s → ∃ e ∈ E, (∃ j, s = .cell e.id j) ∨ s = .box e.id := fun b s hs => by
    rcases viewO_some hs with ⟨a, j, _, h2, h3⟩ | ⟨a, _, h2, h3⟩
    · obtain ⟨e, he, ha⟩ := (h.e3 a).1 h2
      exact ⟨e, he, .inl ⟨j, by rw [h3, h.e4 e he a ha]⟩⟩
    · obtain ⟨e, he, ha⟩ := (h.e3 a).1 h2
      exact ⟨e, he, .inr (by rw [h3, h.e4 e he a ha])⟩
  refine ⟨fun id r hr => ?_, fun b hb => ?_, hc.zs, fun b s hs => ?_, fun b id j hb => ?_, fun b id hb => ?_⟩
  · obtain ⟨e, he, rfl, rfl⟩ := ids id r hr
    obtain ⟨o1, o2⟩ := h.own he
    cases hsrc : e.src with
    | none =>
      obtain ⟨d, cs, xs, e1, e2⟩ := h.e6 e he hsrc
      obtain ⟨n1, n2⟩ := o2 hsrc
      rw [e1]
      refine ⟨fun _ => ⟨rfl, n2⟩, fun hv => (by cases hv), fun j x hx => ?_, fun j _ b => n1 b j⟩
      cases j with
      | zero =>
        simp only [rowRoot, List.getElem?_cons_zero, Option.some.injEq] at hx
        subst hx
        have hg := h.g he
        rw [hsrc] at hg
        simp only at hg
        refine ⟨G e.id, by simp only [rowRoot, PV.rootVal, hg], ?_⟩
        have : (fun b => viewO c keep ren b = some (.cell e.id 0)) = nil' := by funext b; simp only [nil', eq_iff_iff, iff_false]; exact n1 b 0
        show Rep c.w c.Z (.row cs) d xs (G e.id) (fun b => viewO c keep ren b = some (.cell e.id 0))
        rw [this]
        exact e2
      | succ j => simp [rowRoot] at hx
    | some a =>
      obtain ⟨r0, g1, g2⟩ := h.e5 e he a hsrc
      obtain ⟨n1, n2⟩ := o1 a hsrc
      have hk := hc.root a r0 g1
      have hg := h.g he
      rw [hsrc] at hg
      simp only at hg
      have hvirt : e.r.virt = r0.virt := by rw [g2]; rfl
      have hlen : e.r.cells.length = r0.cells.length := by rw [g2]; simp [viewRoot]
      refine ⟨fun hv => ⟨by rw [hlen]; exact (hk.virt (hvirt.symm.trans hv)).1, fun b hb => (hk.virt (hvirt.symm.trans hv)).2 b ((n2 b).1 hb)⟩, fun hv => ?_, fun j x hx => ?_, fun j hj b hb => hk.beyond j (by rw [← hlen]; exact hj) b ((n1 b j).1 hb)⟩
      · obtain ⟨b, ca, Et, fz, f1, f2, f3, f4, f5⟩ := hk.box (hvirt.symm.trans hv)
        exact ⟨b, ca, Et, fz, hg.trans f1, f2, f3.trans hlen.symm, f4, fun b' => (n2 b').trans (f5 b')⟩
      · rw [g2] at hx
        simp only [viewRoot, List.getElem?_map, Option.map_eq_some_iff] at hx
        obtain ⟨x0, hx0, rfl⟩ := hx
        obtain ⟨rv, m1, m2⟩ := hk.cell j x0 hx0
        refine ⟨rv, (h.rootVal he hsrc hvirt j).trans m1, ?_⟩
        have hO : (fun b => viewO c keep ren b = some (.cell e.id j)) = (fun b => c.O b = some (.cell a j)) := by funext b; exact propext (n1 b j)
        have hno : (∀ b, c.O b ≠ some (.cell a j)) → ∀ b, viewO c keep ren b ≠ some (.cell e.id j) := fun hn b hb => hn b ((n1 b j).1 hb)
        cases hxc : x0.c with
        | mk d k =>
          rw [hxc] at m2
          show Rep c.w c.Z k.s d k.x rv (fun b => viewO c keep ren b = some (.cell e.id j))
          rw [hO]
          exact m2
        | lk k => rw [hxc] at m2; exact ⟨m2.1, hno m2.2⟩
        | any => rw [hxc] at m2; exact hno m2
        | al a1 a2 a3 a4 a5 =>
          rw [hxc] at m2
          have hp := h.p1 m2.2
          simp only [normCell]
          simp only [normP1] at hp
          cases hl : liveRef c.rt keep a1 a2 a3 a5 with
          | false => exact hno m2.1
          | true => rw [hl] at hp; exact ⟨hno m2.1, hp⟩
  · unfold viewO
    rw [hc.zo b hb]
  · rcases viewO_some hs with ⟨a, j, h1, _, _⟩ | ⟨a, h1, _, _⟩
    · exact hc.os b _ h1
    · exact hc.os b _ h1
  · obtain ⟨e, he, h1⟩ := site b _ hb
    rcases h1 with ⟨j', h1⟩ | h1
    · simp only [Site.cell.injEq] at h1
      rw [h1.1, h.e8 e he]; simp
    · cases h1
  · obtain ⟨e, he, h1⟩ := site b _ hb
    rcases h1 with ⟨j', h1⟩ | h1
    · cases h1
    · simp only [Site.box.injEq] at h1
      rw [h1, h.e8 e he]; simp
theorem View.lk (h : View c E G keep ren rt') {e : En} (he : e ∈ E) {a : Nat} (ha : e.src = some a) {j : Nat} {u : Value} (hl : c.lkAt a j u) : Cf.lkAt ⟨rt', c.w, viewG c E G, viewO c keep ren, c.Z⟩ e.id j u := by
  obtain ⟨r, x, k, h1, h2, h3, h4⟩ := hl
  obtain ⟨r0, g1, g2⟩ := h.e5 e he a ha
  rw [h1] at g1
  obtain rfl := Option.some.inj g1
  refine ⟨e.r, ⟨0, 0, normCell c.rt keep ren x.c⟩, k, h.e8 e he, ?_, by simp only [h3, normCell], ?_⟩
  · rw [g2]; simp only [viewRoot, List.getElem?_map, h2, Option.map_some]
  · exact (h.rootVal he ha (by rw [g2]; rfl) j).trans h4
theorem View.nd : ND (viewO c keep ren) := fun b k hb => by
  rcases viewO_some hb with ⟨_, _, _, _, h⟩ | ⟨_, _, _, h⟩ <;> cases h
theorem View.none {b : Nat} (hb : c.O b = none) : viewO c keep ren b = none := by unfold viewO; rw [hb]
end
end Go.PV

/- 'norm', and what it makes of a state. -/
namespace Go.PV
variable {cx : Cx}
theorem allApart_nodup : ∀ {l : List Nat}, allApart l = true → l.Nodup
  | [], _ => List.nodup_nil
  | a :: l, h => by
    simp only [allApart, Bool.and_eq_true, Bool.not_eq_true'] at h
    refine List.nodup_cons.2 ⟨fun hm => ?_, allApart_nodup h.2⟩
    rw [memN_mem.2 hm] at h
    exact absurd h.1 (by simp)
theorem map_inj {α β : Type} {f : α → β} : ∀ {l : List α}, (l.map f).Nodup → ∀ x ∈ l, ∀ y ∈ l, f x = f y → x = y
  | a :: l, h, x, hx, y, hy, e => by
    simp only [List.map_cons, List.nodup_cons] at h
    simp only [List.mem_cons] at hx hy
    rcases hx with rfl | hx <;> rcases hy with rfl | hy
    · rfl
    · exact absurd (List.mem_map.2 ⟨y, hy, e.symm⟩) h.1
    · exact absurd (List.mem_map.2 ⟨x, hx, e⟩) h.1
    · exact map_inj h.2 x hx y hy e
theorem filterMap_inj {α β : Type} {f : α → Option β} : ∀ {l : List α}, (l.filterMap f).Nodup → ∀ x ∈ l, ∀ y ∈ l, ∀ b, f x = some b → f y = some b → x = y
  | a :: l, h, x, hx, y, hy, b, e1, e2 => by
    have ht : (l.filterMap f).Nodup := by
      rw [List.filterMap_cons] at h
      split at h
      · exact h
      · exact (List.nodup_cons.1 h).2
    simp only [List.mem_cons] at hx hy
    rcases hx with rfl | hx <;> rcases hy with rfl | hy
    · rfl
    · rw [List.filterMap_cons, e1] at h
      exact absurd (List.mem_filterMap.2 ⟨y, hy, e2⟩) (List.nodup_cons.1 h).1
    · rw [List.filterMap_cons, e2] at h
      exact absurd (List.mem_filterMap.2 ⟨x, hx, e1⟩) (List.nodup_cons.1 h).1
    · exact filterMap_inj ht x hx y hy b e1 e2
theorem renId_not : ∀ {ren : Ren} {a : Nat}, a ∉ ren.map (·.1) → renId ren a = a
  | [], _, _ => rfl
  | (x, y) :: ren, a, h => by
    simp only [List.map_cons, List.mem_cons, not_or] at h
    unfold renId
    rw [show Nat.beq a x = false by rw [← Bool.not_eq_true, Nat.beq_eq]; exact h.1]
    exact renId_not h.2
theorem renId_at : ∀ {ren : Ren} {a b : Nat}, (ren.map (·.1)).Nodup → (a, b) ∈ ren → renId ren a = b
  | (x, y) :: ren, a, b, hn, h => by
    simp only [List.map_cons, List.nodup_cons] at hn
    simp only [List.mem_cons, Prod.mk.injEq] at h
    unfold renId
    rcases h with ⟨rfl, rfl⟩ | h
    · rw [show Nat.beq a a = true by rw [Nat.beq_eq]]
      rfl
    · have hne : a ≠ x := fun e => by subst e; exact hn.1 (List.mem_map.2 ⟨_, h, rfl⟩)
      rw [show Nat.beq a x = false by rw [← Bool.not_eq_true, Nat.beq_eq]; exact hne]
      exact renId_at hn.2 h
theorem getAll_spec {rt : Rt} {keep : List Nat} {ren : Ren} : ∀ {l : List (Nat × List Nat)} {rs : List Root}, getAll rt keep ren l = some rs → ∃ es : List En, es.map (·.r) = rs ∧ es.map (·.id) = l.map (·.1) ∧ ∀ e ∈ es, e.src = some e.id ∧ ∃ ds r, (e.id, ds) ∈ l ∧ rt e.id = some r ∧ e.r = normRoot rt keep ren ds r
  | [], rs, h => by
    simp only [getAll, Option.some.injEq] at h
    subst h
    exact ⟨[], rfl, rfl, fun e he => by simp at he⟩
  | (id, ds) :: l, rs, h => by
    simp only [getAll] at h
    split at h
    · rename_i r hr
      split at h
      · rename_i rs2 h2
        obtain rfl := Option.some.inj h
        obtain ⟨es, h3, h4, h5⟩ := getAll_spec h2
        refine ⟨⟨id, some id, normRoot rt keep ren ds r⟩ :: es, by simp [h3], by simp [h4], fun e he => ?_⟩
        simp only [List.mem_cons] at he
        rcases he with rfl | he
        · exact ⟨rfl, ds, r, by simp, hr, rfl⟩
        · obtain ⟨k1, ds', r', k2, k3⟩ := h5 e he
          exact ⟨k1, ds', r', by simp [k2], k3⟩
      · cases h
    · cases h
def ownIds (l : List (Nat × HS)) : List (Nat × List Nat) := l.filterMap fun | (t, .own d _) => some (canon t, [d]) | _ => none
theorem owns_spec {s : St} : ∀ {l : List (Nat × HS)} {ren : Ren} {rs : List Root}, owns s l = some (ren, rs) → ∃ es : List En, es.map (·.r) = rs ∧ es.map (·.id) = (ownIds l).map (·.1) ∧ ren = es.filterMap (fun e => e.src.map fun a => (a, e.id)) ∧
    (∀ e ∈ es, ∃ t d cs, (t, HS.own d cs) ∈ l ∧ e.id = canon t ∧ ownSrc s.rt d cs (s.tm t) = some (e.src, e.r)) ∧ ∀ t d cs, (t, HS.own d cs) ∈ l → ∃ e ∈ es, e.id = canon t ∧ ownSrc s.rt d cs (s.tm t) = some (e.src, e.r)
  | [], ren, rs, h => by
    simp only [owns, Option.some.injEq, Prod.mk.injEq] at h
    obtain ⟨rfl, rfl⟩ := h
    exact ⟨[], rfl, rfl, rfl, fun e he => by simp at he, fun t d cs ht => by simp at ht⟩
  | (t, .keep) :: l, ren, rs, h => by
    simp only [owns] at h
    obtain ⟨es, h1, h2, h3, h4, h5⟩ := owns_spec h
    refine ⟨es, h1, h2, h3, fun e he => ?_, fun t' d cs ht => ?_⟩
    · obtain ⟨t, d, cs, k1, k2⟩ := h4 e he
      exact ⟨t, d, cs, by simp [k1], k2⟩
    · simp only [List.mem_cons, Prod.mk.injEq, reduceCtorEq, and_false, false_or] at ht
      exact h5 t' d cs ht
  | (t, .own d cs) :: l, ren, rs, h => by
    simp only [owns] at h
    split at h
    · rename_i o r ho
      split at h
      · rename_i ren2 rs2 h2
        obtain ⟨es, h1, h3, h4, h5, h6⟩ := owns_spec h2
        have key : ren = (⟨canon t, o, r⟩ :: es : List En).filterMap (fun e => e.src.map fun a => (a, e.id)) ∧ rs = r :: rs2 := by
          cases o with
          | none =>
            simp only [Option.some.injEq, Prod.mk.injEq] at h
            obtain ⟨rfl, rfl⟩ := h
            exact ⟨by simpa using h4, rfl⟩
          | some id =>
            simp only at h
            obtain ⟨_, h⟩ := cond_n h
            simp only [Option.some.injEq, Prod.mk.injEq] at h
            obtain ⟨rfl, rfl⟩ := h
            exact ⟨by simpa using h4, rfl⟩
        refine ⟨⟨canon t, o, r⟩ :: es, by rw [key.2]; simp [h1], ?_, key.1, fun e he => ?_, fun t' d' cs' ht => ?_⟩
        · simp only [List.map_cons, h3]
          rfl
        · simp only [List.mem_cons] at he
          rcases he with rfl | he
          · exact ⟨t, d, cs, by simp, rfl, ho⟩
          · obtain ⟨t', d', cs', k1, k2⟩ := h5 e he
            exact ⟨t', d', cs', by simp [k1], k2⟩
        · simp only [List.mem_cons, Prod.mk.injEq, HS.own.injEq] at ht
          rcases ht with ⟨rfl, rfl, rfl⟩ | ht
          · exact ⟨⟨canon t', o, r⟩, by simp, rfl, ho⟩
          · obtain ⟨e, k1, k2⟩ := h6 t' d' cs' ht
            exact ⟨e, by simp [k1], k2⟩
      · cases h
    · cases h
theorem ofList_ids {E : List En} : ∀ {E : List En} {ids : List (Nat × List Nat)}, ids.map (·.1) = E.map (·.id) → (E.map (·.id)).Nodup → (∀ e ∈ E, ofList (none : Option Root) ids ((E.map (·.r)).map some) e.id = some e.r) ∧ ∀ id, (∀ e ∈ E, e.id ≠ id) → ofList (none : Option Root) ids ((E.map (·.r)).map some) id = none
  | [], [], _, _ => ⟨fun e he => by simp at he, fun id _ => rfl⟩
  | [], _ :: _, h, _ => by simp at h
  | _ :: _, [], h, _ => by simp at h
  | e0 :: E, (i, ds) :: ids, h, hn => by
    simp only [List.map_cons, List.cons.injEq, List.nodup_cons] at h hn
    obtain ⟨rfl, h⟩ := h
    obtain ⟨h1, h2⟩ := ofList_ids h hn.2 (E := E)
    simp only [List.map_cons, ofList]
    refine ⟨fun e he => ?_, fun id hid => ?_⟩
    · simp only [List.mem_cons] at he
      rcases he with rfl | he
      · rw [show Nat.beq e.id e.id = true by rw [Nat.beq_eq]]; rfl
      · have hne : e.id ≠ e0.id := fun e2 => hn.1 (by rw [← e2]; exact List.mem_map.2 ⟨e, he, rfl⟩)
        rw [show Nat.beq e.id e0.id = false by rw [← Bool.not_eq_true, Nat.beq_eq]; exact hne]
        exact h1 e he
    · have hne : id ≠ e0.id := fun e2 => hid e0 (by simp) e2.symm
      rw [show Nat.beq id e0.id = false by rw [← Bool.not_eq_true, Nat.beq_eq]; exact hne]
      exact h2 id fun e he => hid e (by simp [he])
theorem ofList_slots {α : Type} {f : Nat × α → P} : ∀ {l : List (Nat × α)} {t : Nat}, ofList P.dead l (l.map f) t = .dead ∨ ∃ q ∈ l, q.1 = t ∧ ofList P.dead l (l.map f) t = f q
  | [], t => .inl rfl
  | (t0, x) :: l, t => by
    simp only [List.map_cons, ofList]
    cases hb : Nat.beq t t0 with
    | true =>
      have := Nat.eq_of_beq_eq_true hb
      exact .inr ⟨(t0, x), by simp, this.symm, rfl⟩
    | false =>
      rcases ofList_slots (l := l) (t := t) (f := f) with h | ⟨q, h1, h2, h3⟩
      · exact .inl h
      · exact .inr ⟨q, by simp [h1], h2, h3⟩
theorem normCell_ver {rt rt' : Rt} (h : ∀ id j, vers rt' id j = vers rt id j) (keep : List Nat) (ren : Ren) (c : Cell) : normCell rt' keep ren c = normCell rt keep ren c := by
  cases c <;> simp only [normCell, live_ver h]
theorem normP1_ver {rt rt' : Rt} (h : ∀ id j, vers rt' id j = vers rt id j) (keep : List Nat) (ren : Ren) (p : P) : normP1 rt' keep ren p = normP1 rt keep ren p := by
  cases p with
  | ref id j st cut v => simp only [normP1, live_ver h]
  | addr id j st v => cases st <;> simp only [normP1, live_ver h]
  | _ => rfl
/-! ### later in the same function -/
structure Sub (nv nb : List Nat) (c0 c : Cf) : Prop where
  size : c0.w.heap.size ≤ c.w.heap.size
  same : ∀ b, b < c0.w.heap.size → c0.O b = none → c.w.heap[b]? = c0.w.heap[b]? ∧ c.O b = none
  z : ∀ b, c0.Z b → c.Z b
  z' : ∀ b, c.Z b → c0.Z b ∨ c0.O b ≠ none ∨ c0.w.heap.size ≤ b
  v : ∀ id ∈ nv, ∀ u, c0.P1 (.ref id 0 [] none 0) u → c.P1 (.ref id 0 [] none 0) u
  env : SameEnv c0.w c.w
  b : ∀ id ∈ nb, (∀ u, c0.P1 (.addr id 0 [] 0) u → c.P1 (.addr id 0 [] 0) u) ∧ ∀ j u, c0.lkAt id j u → c.lkAt id j u
theorem To.sub {nv nb : List Nat} {c0 c : Cf} (t : To c0 c) : Sub nv nb c0 c :=
  ⟨t.ext.size, t.ext.same, t.ext.z, t.ext.z', fun _ _ _ h => t.stb _ _ h, t.ext.env, fun id _ => ⟨fun _ h => t.stb _ _ h, fun j u h => t.lk id j u h⟩⟩
theorem Sub.trans {nv nb : List Nat} {a b c : Cf} (h : Sub nv nb a b) (k : Sub nv nb b c) : Sub nv nb a c where
  size := Nat.le_trans h.size k.size
  same x hx hn := by
    obtain ⟨h1, h2⟩ := h.same x hx hn
    obtain ⟨k1, k2⟩ := k.same x (Nat.lt_of_lt_of_le hx h.size) h2
    exact ⟨k1.trans h1, k2⟩
  z x hx := k.z x (h.z x hx)
  z' x hx := by
    rcases k.z' x hx with h1 | h1 | h1
    · exact h.z' x h1
    · by_cases hl : x < a.w.heap.size
      · by_cases hn : a.O x = none
        · exact absurd (h.same x hl hn).2 h1
        · exact .inr (.inl hn)
      · exact .inr (.inr (by omega))
    · exact .inr (.inr (Nat.le_trans h.size h1))
  v id hid u hu := k.v id hid u (h.v id hid u hu)
  env := h.env.trans k.env
  b id hid := ⟨fun u hu => (k.b id hid).1 u ((h.b id hid).1 u hu), fun j u hu => (k.b id hid).2 j u ((h.b id hid).2 j u hu)⟩
theorem norm_sound {h : Hint} {s : St} {x : LS} {c : Cf} {a : Act} (hat : At cx.nt c s a) (hn : normK cx h s = some x) : ∃ c', At cx.nt c' (unnorm h x) a ∧ c'.w = c.w ∧ Sub cx.nv cx.nb c c' := by
  unfold normK at hn
  obtain ⟨hk, hn⟩ := cond_s hn
  unfold norm at hn
  split at hn
  · cases hn
  · rename_i ren own hown
    obtain ⟨hap, hn⟩ := cond_s hn
    simp only [Bool.and_eq_true] at hap
    split at hn
    · rename_i rs hrs
      obtain rfl := Option.some.inj hn
      have nd1 := allApart_nodup hap.1
      have nd2 := allApart_nodup hap.2
      obtain ⟨es, o1, o2, o3, o4, o5⟩ := owns_spec hown
      obtain ⟨es0, g1, g2, g3⟩ := getAll_spec hrs
      generalize hkeep : h.roots.map (·.1) ++ ren.map (·.1) = keep at *
      -- less is owned
      let dep : Root → List Nat := fun r => match r.cells with
        | [⟨_, _, .mk d _⟩] => [d]
        | _ => []
      let T : List (Nat × List Nat) := h.roots ++ es.filterMap fun e => e.src.map fun b => (b, dep e.r)
      have hT : T.map (·.1) = keep := by
        rw [← hkeep, o3]
        simp only [T, List.map_append]
        congr 1
        rw [List.map_filterMap, List.map_filterMap]
        congr 1
        funext e
        cases e.src <;> rfl
      have ndT : (T.map (·.1)).Nodup := by rw [hT]; exact nd1
      obtain ⟨O1, Z1, t1, n1⟩ := weakAll_to T c hat.inv
      have hver : ∀ id j, vers (weakAll c.rt T) id j = vers s.rt id j := fun id j => by rw [weakAll_ver, hat.rt]
      have srcs : (es0 ++ es).filterMap (·.src) = keep := by
        rw [List.filterMap_append, ← hkeep]
        congr 1
        · rw [← g2]
          clear g1 g2 hrs
          induction es0 with
          | nil => rfl
          | cons e es0 ih => rw [List.filterMap_cons, (g3 e (by simp)).1, List.map_cons, ih fun e he => g3 e (by simp [he])]
        · rw [o3, List.map_filterMap]
          congr 1
          funext e
          cases e.src <;> rfl
      have idsE : h.ids.map (·.1) = (es0 ++ es).map (·.id) := by
        unfold Hint.ids
        rw [List.map_append, List.map_append, g2, o2]
        rfl
      have hview : View ⟨weakAll c.rt T, c.w, c.γ, O1, Z1⟩ (es0 ++ es) (fun id => a.tmps.getD (id / 4) undef) keep ren (unnorm h ⟨h.slots.map (normSlot s keep ren), rs ++ own⟩).rt := by
        refine ⟨fun e he e' he' => map_inj (f := (·.id)) (by rw [← idsE]; exact nd2) e he e' he', fun e he e' he' b h1 h2 => filterMap_inj (f := (·.src)) (by rw [srcs]; exact nd1) e he e' he' b h1 h2, fun b => ?_, fun e he b hb => ?_, fun e he b hb => ?_, fun e he hb => ?_, ?_, ?_⟩
        · rw [memN_mem, ← srcs, List.mem_filterMap]
        · simp only [List.mem_append] at he
          rw [← hkeep] at nd1
          rw [List.nodup_append] at nd1
          rcases he with he | he
          · obtain ⟨k1, _⟩ := g3 e he
            rw [hb] at k1
            obtain rfl := Option.some.inj k1
            refine renId_not fun hm => ?_
            exact nd1.2.2 e.id (by rw [← g2]; exact List.mem_map.2 ⟨e, he, rfl⟩) e.id hm rfl
          · refine renId_at nd1.2.1 ?_
            rw [o3, List.mem_filterMap]
            exact ⟨e, he, by rw [hb]; rfl⟩
        · simp only [List.mem_append] at he
          rcases he with he | he
          · obtain ⟨k1, ds, r, k2, k3, k4⟩ := g3 e he
            rw [hb] at k1
            obtain rfl := Option.some.inj k1
            refine ⟨_, weakAll_at T c.rt e.id ds r ndT (by simp [T, k2]) (by rw [hat.rt]; exact k3), ?_⟩
            rw [k4]
            unfold normRoot viewRoot
            simp only [normCell_ver hver]
          · obtain ⟨t, d, cs, k1, k2, k3⟩ := o4 e he
            rw [hb] at k3
            unfold ownSrc at k3
            split at k3
            · obtain ⟨_, k3⟩ := cond_s k3; simp at k3
            · split at k3
              · obtain ⟨_, k3⟩ := cond_s k3; simp at k3
              · cases k3
            · rename_i id j st cut v hp
              split at k3
              · obtain ⟨k4, k3⟩ := cond_s k3
                simp only [Bool.and_eq_true, Nat.beq_eq] at k4
                split at k3
                · rename_i x hx
                  split at k3
                  · rename_i d0 k hxc
                    obtain ⟨k5, k3⟩ := cond_s k3
                    simp only [Bool.and_eq_true, Nat.ble_eq] at k5
                    split at k3
                    · rename_i xs hxs
                      simp only [Option.some.injEq, Prod.mk.injEq] at k3
                      obtain ⟨rfl, k6⟩ := k3
                      obtain ⟨r, hr, hx0⟩ := cellAt_some hx
                      have hvirt : r.virt = true := by have := k4.1; unfold isVirt at this; rw [hr] at this; exact this
                      have hlen := ((hat.inv.root id r (by rw [hat.rt]; exact hr)).virt hvirt).1
                      obtain ⟨rv, rc⟩ := r
                      simp only at hvirt hlen hx0
                      subst hvirt
                      match rc, hlen with
                      | [y], _ =>
                        simp only [List.getElem?_cons_zero, Option.some.injEq] at hx0
                        subst hx0
                        have hk := CV.as_some hxs
                        subst hk
                        have hT2 : (id, dep e.r) ∈ T := by
                          simp only [T, List.mem_append, List.mem_filterMap]
                          exact .inr ⟨e, he, by rw [hb]; rfl⟩
                        refine ⟨_, weakAll_at T c.rt id (dep e.r) _ ndT hT2 (by rw [hat.rt]; exact hr), ?_⟩
                        rw [← k6]
                        simp only [dep, rowRoot, viewRoot, PV.weaken, hxc, List.map_cons, List.map_nil, normCell, Nat.min_eq_right k5.2]
                    · cases k3
                  · cases k3
                · cases k3
              · cases k3
            · cases k3
        · simp only [List.mem_append] at he
          rcases he with he | he
          · rw [(g3 e he).1] at hb; cases hb
          · obtain ⟨t, d, cs, k1, k2, k3⟩ := o4 e he
            rw [hb] at k3
            have hG : a.tmps.getD (e.id / 4) undef = a.tmps.getD t undef := by rw [k2]; unfold canon; rw [Nat.mul_div_cancel_left t (by omega)]
            have hp := PR_stab t1.stb (hat.tm t)
            rw [hG]
            unfold ownSrc at k3
            split at k3
            · rename_i hs
              rw [hs] at hp
              obtain ⟨_, k3⟩ := cond_s k3
              simp only [Option.some.injEq, Prod.mk.injEq, true_and] at k3
              refine ⟨d, cs, [], k3.symm, ?_⟩
              have hp : a.tmps.getD t undef = .slice none 0 0 := hp
              rw [hp]
              simp only [Rep]
              refine ⟨none, 0, rfl, Nat.le_refl _, ?_⟩
              cases d with
              | zero => exact ⟨trivial, fun i hi => absurd hi (Nat.not_lt_zero _)⟩
              | succ d => exact .inl ⟨rfl, rfl, trivial, trivial⟩
            · rename_i k hs
              rw [hs] at hp
              split at k3
              · rename_i xs hxs
                obtain ⟨hd, k3⟩ := cond_s k3
                have hd := Nat.eq_of_beq_eq_true hd
                simp only [Option.some.injEq, Prod.mk.injEq, true_and] at k3
                have hk := CV.as_some hxs
                subst hk
                exact ⟨0, cs, xs, k3.symm, hp⟩
              · cases k3
            · split at k3
              · obtain ⟨_, k3⟩ := cond_s k3
                split at k3
                · split at k3
                  · obtain ⟨_, k3⟩ := cond_s k3
                    split at k3
                    · simp at k3
                    · cases k3
                  · cases k3
                · cases k3
              · cases k3
            · cases k3
        · have := (ofList_ids (E := es0 ++ es) idsE (by rw [← idsE]; exact nd2)).1
          intro e he
          have h2 := this e he
          simp only [unnorm]
          rw [List.map_append, g1, o1] at h2
          exact h2
        · have := (ofList_ids (E := es0 ++ es) idsE (by rw [← idsE]; exact nd2)).2
          intro id hid
          have h2 := this id hid
          simp only [unnorm]
          rw [List.map_append, g1, o1] at h2
          exact h2
      refine ⟨⟨_, c.w, viewG ⟨weakAll c.rt T, c.w, c.γ, O1, Z1⟩ (es0 ++ es) (fun id => a.tmps.getD (id / 4) undef), viewO ⟨weakAll c.rt T, c.w, c.γ, O1, Z1⟩ keep ren, Z1⟩, ⟨hview.inv t1.inv, View.nd, rfl, hat.sz, hat.df, fun t => ?_⟩, rfl, ?_⟩
      · -- slots
        have one : ∀ p u, c.P1 p u → PRep1 (unnorm h ⟨h.slots.map (normSlot s keep ren), rs ++ own⟩).rt c.w (viewG ⟨weakAll c.rt T, c.w, c.γ, O1, Z1⟩ (es0 ++ es) (fun id => a.tmps.getD (id / 4) undef)) Z1 (normP1 s.rt keep ren p) u := fun p u hp => by
          have := hview.p1 (p := p) (u := u) (t1.stb p u hp)
          rw [normP1_ver hver] at this
          exact this
        have oneA : ∀ p u, PRepA c.rt c.w c.γ c.Z p u → PRepA (unnorm h ⟨h.slots.map (normSlot s keep ren), rs ++ own⟩).rt c.w (viewG ⟨weakAll c.rt T, c.w, c.γ, O1, Z1⟩ (es0 ++ es) (fun id => a.tmps.getD (id / 4) undef)) Z1 (normP1 s.rt keep ren p) u := fun p u hp => by
          cases p with
          | agg l => trivial
          | tup l => trivial
          | dead => trivial
          | und => exact PRepA.of1 (one .und u hp)
          | cv k => exact PRepA.of1 (one (.cv k) u hp)
          | e => exact PRepA.of1 (one .e u hp)
          | ref id j st cut v => exact PRepA.of1 (one (.ref id j st cut v) u hp)
          | addr id j st v => exact PRepA.of1 (one (.addr id j st v) u hp)
          | ra cs xs i j => exact PRepA.of1 (one (.ra cs xs i j) u hp)
        show PRep _ _ _ _ (ofList P.dead h.slots (h.slots.map (normSlot s keep ren)) t) _
        rcases ofList_slots (l := h.slots) (t := t) (f := normSlot s keep ren) with e | ⟨⟨t', hs⟩, q1, rfl, q3⟩
        · rw [e]; trivial
        · rw [q3]
          cases hs with
          | keep =>
            have hp := hat.tm t'
            simp only [normSlot]
            cases hsl : s.tm t' with
            | agg l =>
              rw [hsl] at hp
              obtain ⟨vs, f1, f2, f3⟩ := hp
              refine ⟨vs, f1, by simpa using f2, fun i p u hp hu => ?_⟩
              rw [List.getElem?_map, Option.map_eq_some_iff] at hp
              obtain ⟨p0, hp0, rfl⟩ := hp
              exact one _ _ (f3 i p0 u hp0 hu)
            | tup l =>
              rw [hsl] at hp
              obtain ⟨vs, f1, f2, f3⟩ := hp
              refine ⟨vs, f1, by simpa using f2, fun i p u hp hu => ?_⟩
              rw [List.getElem?_map, Option.map_eq_some_iff] at hp
              obtain ⟨p0, hp0, rfl⟩ := hp
              exact oneA _ _ (f3 i p0 u hp0 hu)
            | dead => trivial
            | und => rw [hsl] at hp; exact hp
            | cv k => rw [hsl] at hp; exact PRep.of1 (c := ⟨_, c.w, _, O1, Z1⟩) (one (.cv k) _ hp)
            | e => rw [hsl] at hp; exact hp
            | ref id j st cut v => rw [hsl] at hp; exact PRep.of1 (c := ⟨_, c.w, _, O1, Z1⟩) (one (.ref id j st cut v) _ hp)
            | addr id j st v => rw [hsl] at hp; exact PRep.of1 (c := ⟨_, c.w, _, O1, Z1⟩) (one (.addr id j st v) _ hp)
            | ra cs xs i j => rw [hsl] at hp; exact PRep.of1 (c := ⟨_, c.w, _, O1, Z1⟩) (one (.ra cs xs i j) _ hp)
          | own d cs =>
            obtain ⟨e, he, k1, k2⟩ := o5 t' d cs q1
            have heE : e ∈ es0 ++ es := by simp [he]
            have hrt := hview.e8 e heE
            have hg := hview.g heE
            have hp := PR_stab t1.stb (hat.tm t')
            have hG : a.tmps.getD (e.id / 4) undef = a.tmps.getD t' undef := by rw [k1]; unfold canon; rw [Nat.mul_div_cancel_left t' (by omega)]
            -- what is under the slot's own name is the slot's value
            have key : ∃ xs, e.r = rowRoot d cs xs ∧ viewG ⟨weakAll c.rt T, c.w, c.γ, O1, Z1⟩ (es0 ++ es) (fun id => a.tmps.getD (id / 4) undef) e.id = a.tmps.getD t' undef ∧ isSlice (a.tmps.getD t' undef) := by
              unfold ownSrc at k2
              split at k2
              · rename_i hs
                rw [hs] at hp
                obtain ⟨_, k2⟩ := cond_s k2
                simp only [Option.some.injEq, Prod.mk.injEq] at k2
                rw [← k2.1] at hg
                have hp : a.tmps.getD t' undef = .slice none 0 0 := hp
                exact ⟨[], k2.2.symm, hg.trans hG, by rw [hp]; trivial⟩
              · rename_i k hs
                rw [hs] at hp
                split at k2
                · rename_i xs hxs
                  obtain ⟨hd, k3⟩ := cond_s k2
                  have hd := Nat.eq_of_beq_eq_true hd
                  simp only [Option.some.injEq, Prod.mk.injEq] at k3
                  rw [← k3.1] at hg
                  have hk := CV.as_some hxs
                  subst hk
                  have hp : Rep c.w Z1 (.row cs) 0 xs (a.tmps.getD t' undef) nil' := hp
                  exact ⟨xs, by rw [hd]; exact k3.2.symm, hg.trans hG, (Rep.slice hp).1 rfl⟩
                · cases k2
              · rename_i id j st cut v hs
                rw [hs] at hp
                split at k2
                · obtain ⟨k4, k2⟩ := cond_s k2
                  simp only [Bool.and_eq_true, Nat.beq_eq] at k4
                  split at k2
                  · rename_i x hx
                    split at k2
                    · rename_i d0 k hxc
                      obtain ⟨k5, k2⟩ := cond_s k2
                      simp only [Bool.and_eq_true, Nat.ble_eq, Nat.beq_eq] at k5
                      split at k2
                      · rename_i xs hxs
                        simp only [Option.some.injEq, Prod.mk.injEq] at k2
                        rw [← k2.1] at hg
                        obtain ⟨r, hr, hx0⟩ := cellAt_some hx
                        have hvirt : r.virt = true := by have := k4.1; unfold isVirt at this; rw [hr] at this; exact this
                        have hp0 := hat.tm t'
                        rw [hs] at hp0
                        obtain ⟨r', x', rv, m1, m2, m3, m4, m5⟩ := hp0
                        rw [hat.rt, hr] at m1
                        obtain rfl := Option.some.inj m1
                        rw [k4.2, hx0] at m2
                        obtain rfl := Option.some.inj m2
                        have hro := m5 k5.1
                        unfold RefOk at hro
                        rw [hxc] at hro
                        obtain ⟨v0, cs', xs', n1', n2, n3, n4, n5⟩ := hro
                        simp only [pv, Option.some.injEq] at n2
                        rw [k4.2] at m3
                        unfold PV.rootVal at m3
                        rw [hvirt] at m3
                        simp only [Option.some.injEq] at m3
                        refine ⟨xs, k2.2.symm, ?_, m4.2⟩
                        rw [hg]
                        show c.γ id = _
                        rw [m3, n2, n5, cutV_none]
                      · cases k2
                    · cases k2
                  · cases k2
                · cases k2
              · cases k2
            obtain ⟨xs, f1, f2, f3⟩ := key
            simp only [normSlot]
            rw [k1] at hrt f2
            rw [f1] at hrt
            refine ⟨rowRoot d cs xs, ⟨0, 0, .mk d ⟨.row cs, xs⟩⟩, a.tmps.getD t' undef, hrt, rfl, by simp only [rowRoot, PV.rootVal, f2], ⟨Nat.le_refl _, f3⟩, fun _ => ?_⟩
            exact ⟨_, cs, xs, by simp only [inR], rfl, getP_nil _ _, (fun n h => by cases h), (cutV_none _).symm⟩
      · -- what is known of the parameters
        unfold keeps at hk
        simp only [Bool.and_eq_true, List.all_eq_true] at hk
        have hroot : ∀ id, memN id (h.roots.map (·.1)) = true → ∃ e ∈ es0 ++ es, e.id = id ∧ e.src = some id := fun id hm => by
          have hm := memN_mem.1 hm
          rw [← g2, List.mem_map] at hm
          obtain ⟨e, he, rfl⟩ := hm
          exact ⟨e, by simp [he], rfl, (g3 e he).1⟩
        refine Sub.trans t1.sub ⟨Nat.le_refl _, fun b _ hb => ⟨rfl, View.none hb⟩, fun b hb => hb, fun b hb => .inl hb, fun id hid u hu => ?_, SameEnv.refl _, fun id hid => ?_⟩
        · obtain ⟨m1, m2⟩ := hk.1 id hid
          obtain ⟨e, he, rfl, hsrc⟩ := hroot id m1
          have hp := hview.p1 hu
          have hlive : liveRef (weakAll c.rt T) keep e.id 0 [] 0 = true := by
            rw [live_ver hver]
            unfold liveRef
            rw [(hview.e3 e.id).2 ⟨e, he, hsrc⟩]
            split at m2
            · rename_i r hr
              simp only [Bool.and_eq_true, List.all_eq_true, Nat.beq_eq] at m2
              obtain ⟨r1, x1, rv1, q1, q2, _⟩ := hu
              have hv := hver e.id 0
              unfold vers at hv
              rw [cellAt_eq q1 q2] at hv
              cases hc0 : cellAt s.rt e.id 0 with
              | none => rw [hc0] at hv; cases hv
              | some x0 =>
                obtain ⟨r2, hr2, hx2⟩ := cellAt_some hc0
                rw [hr] at hr2
                obtain rfl := Option.some.inj hr2
                have := m2.2 x0 (List.mem_of_getElem? hx2)
                simp only [Bool.true_and, VC.ok, this, Nat.beq_eq]
            · cases m2
          simp only [normP1, hlive, cond_true] at hp
          rw [hview.e4 e he e.id hsrc] at hp
          exact hp
        · obtain ⟨e, he, rfl, hsrc⟩ := hroot id (hk.2 id hid)
          refine ⟨fun u hu => ?_, fun j u hu => hview.lk he hsrc hu⟩
          have hp := hview.p1 hu
          simp only [normP1, (hview.e3 e.id).2 ⟨e, he, hsrc⟩, cond_true] at hp
          rw [hview.e4 e he e.id hsrc] at hp
          exact hp
    · cases hn
end Go.PV

/- Code: what 'exec' says, the program does. -/
namespace Go.PV
variable {Pg : Program} {cx : Cx} {R : Type}
variable (ok : ∀ t, tyOk Pg t (cx.ty t) = true) (okE : ∀ t, cx.eqs t = true → eqOk Pg t (cx.ty t) = true) (hcall : CallOk Pg cx) (hsig : sigsOk cx) (hmix : Pg.follows .mixedOrders = true)
include ok okE hcall hsig hmix
theorem exec_sound {c0 : Cf} {r : R} : ∀ (code : Code) (n : Nat) (s : St) (K : St → Option R) (E : Nat → St → Option R) (T : St → Option R) (c : Cf) (a : Act) (Q : Exit → Act → World → Prop), exec cx code n s K E T = some r → At cx.nt c s a → Sub cx.nv cx.nb c0 c →
    (∀ c' s' a', At cx.nt c' s' a' → Sub cx.nv cx.nb c0 c' → K s' = some r → Q .normal a' c'.w) → (∀ i c' s' a', At cx.nt c' s' a' → Sub cx.nv cx.nb c0 c' → E i s' = some r → Q (.exit i) a' c'.w) →
    (∀ c' s' a', At cx.nt c' s' a' → Sub cx.nv cx.nb c0 c' → T s' = some r → Q .ret a' c'.w) → code.wp Pg Q a c.w := by
  intro code
  induction code with
  | skip => intro n s K E T c a Q h hat hs hK hE hT; exact wp_skip (hK c s a hat hs h)
  | region id ops draw =>
    intro n s K E T c a Q h hat hs hK hE hT
    exact region_sound ok okE hcall hsig hmix hat h fun c' s' a' hat' t hk => hK c' s' a' hat' (hs.trans t.sub) hk
  | seq x y ihx ihy =>
    intro n s K E T c a Q h hat hs hK hE hT
    simp only [exec] at h
    refine wp_seq ?_
    split at h
    · exact ihx n s _ E T c a _ h hat hs (fun c' s' a' hat' hs' hk => ihy n s' K E T c' a' Q hk hat' hs' hK hE hT) hE hT
    · rename_i hh _
      refine ihx n s _ E T c a _ h hat hs (fun c' s' a' hat' hs' hk => ?_) hE hT
      split at hk
      · rename_i x hx
        obtain ⟨c2, h1, h2, h3⟩ := norm_sound hat' hx
        have := ihy n _ K E T c2 a' Q hk h1 (hs'.trans h3) hK hE hT
        rw [h2] at this
        exact this
      · cases hk
  | cond q x y ihx ihy =>
    intro n s K E T c a Q h hat hs hK hE hT
    simp only [exec] at h
    split at h
    · rename_i b hb
      have hev := hat.ev q
      rw [hb] at hev
      obtain ⟨e, _⟩ := PR_cv.1 hev
      refine wp_cond (t := b) e ?_
      cases b with
      | true => exact ihx n s K E T c a Q h hat hs hK hE hT
      | false => exact ihy n s K E T c a Q h hat hs hK hE hT
    · cases h
  | block id x ih =>
    intro n s K E T c a Q h hat hs hK hE hT
    simp only [exec] at h
    refine wp_block (ih id s K _ T c a _ h hat hs hK (fun i c' s' a' hat' hs' hk => ?_) hT)
    show Exit.inBlock id Q (.exit i) a' c'.w
    unfold Exit.inBlock
    simp only
    cases hi : Nat.beq i id with
    | true =>
      rw [hi] at hk
      rw [if_pos (Nat.eq_of_beq_eq_true hi)]
      exact hK c' s' a' hat' hs' hk
    | false =>
      rw [hi] at hk
      rw [if_neg (fun e => by subst e; rw [← Bool.not_eq_true, Nat.beq_eq] at hi; exact hi rfl)]
      exact hE i c' s' a' hat' hs' hk
  | loop body ih =>
    intro n s K E T c a Q h hat hs hK hE hT
    simp only [exec] at h
    split at h
    · rename_i y hy
      obtain ⟨c2, h1, h2, h3⟩ := norm_sound hat hy
      have key : ∀ (k : Nat) (y : LS) (c : Cf) (a : Act), loopK (fun x L => exec cx body n (unnorm (cx.hint n) x) (fun s => match normK cx (cx.hint n) s with | some y => L y | none => none) E T) k y = some r → At cx.nt c (unnorm (cx.hint n) y) a → Sub cx.nv cx.nb c0 c → Code.rounds Pg body Q k a c.w := by
        intro k
        induction k with
        | zero => intro y c a h _ _; cases h
        | succ k ihk =>
          intro y c a h hat hs
          refine ih n _ _ E T c a _ h hat hs (fun c' s' a' hat' hs' hk => ?_) hE hT
          split at hk
          · rename_i y' hy'
            obtain ⟨c3, g1, g2, g3⟩ := norm_sound hat' hy'
            have := ihk y' c3 a' hk g1 (hs'.trans g3)
            rw [g2] at this
            exact this
          · cases hk
      have := key _ y c2 a h h1 (hs.trans h3)
      rw [h2] at this
      exact wp_loop_rounds _ this
    · cases h
  | exit id => intro n s K E T c a Q h hat hs hK hE hT; exact wp_exit (hE id c s a hat hs h)
  | ret => intro n s K E T c a Q h hat hs hK hE hT; exact wp_ret (hT c s a hat hs h)
  | _ => intro n s K E T c a Q h; cases h
end Go.PV

/- A function is entered: its parameters' cells under their own names. -/
namespace Go.PV
noncomputable def baseO (F : Nat → Fp) : Own := fun b => open Classical in if h : ∃ i, F i b then some (.det h.choose) else none
theorem baseO_iff {F : Nat → Fp} (h1 : ∀ i j b, F i b → F j b → i = j) {b : Nat} {s : Site} : baseO F b = some s ↔ ∃ i, s = .det i ∧ F i b := by
  unfold baseO
  constructor
  · intro h
    split at h
    · rename_i hex; exact ⟨_, (Option.some.inj h).symm, hex.choose_spec⟩
    · cases h
  · rintro ⟨i, rfl, hf⟩
    have hex : ∃ i, F i b := ⟨i, hf⟩
    rw [dif_pos hex, h1 _ _ b hex.choose_spec hf]
theorem baseO_none {F : Nat → Fp} {b : Nat} : baseO F b = none ↔ ∀ i, ¬ F i b := by
  unfold baseO
  constructor
  · intro h i hi
    rw [dif_pos ⟨i, hi⟩] at h; cases h
  · intro h
    rw [dif_neg (fun ⟨i, hi⟩ => h i hi)]
noncomputable abbrev baseC (w : World) (Z : Fp) (F : Nat → Fp) : Cf := ⟨rtOf [], w, fun _ => undef, baseO F, Z⟩
theorem baseC_inv {w : World} {Z : Fp} {F : Nat → Fp} (h1 : ∀ i j b, F i b → F j b → i = j) (h2 : ∀ i b, F i b → ¬ Z b ∧ b < w.heap.size) (h3 : ∀ b, Z b → b < w.heap.size) : (baseC w Z F).Inv := by
  refine ⟨fun id r hr => (by cases hr), fun b hb => baseO_none.2 fun i hi => (h2 i b hi).1 hb, h3, fun b s hs => ?_, fun b id j hb => ?_, fun b id hb => ?_⟩
  · obtain ⟨i, _, hi⟩ := (baseO_iff h1).1 hs
    exact (h2 i b hi).2
  · obtain ⟨i, e, _⟩ := (baseO_iff h1).1 hb; cases e
  · obtain ⟨i, e, _⟩ := (baseO_iff h1).1 hb; cases e
structure Ent0 (F : Nat → Fp) (c : Cf) (k : Nat) : Prop where
  det : ∀ b i, c.O b = some (.det i) ↔ F i b ∧ i < k
  rt : ∀ i, i < k → c.rt (parId i) = none
theorem parId_inj {i j : Nat} (h : parId i = parId j) : i = j := by unfold parId at h; omega
theorem rtOf_cons {id : Nat} {r : Root} {l : List (Nat × Root)} : rtOf ((id, r) :: l) = setRt (rtOf l) id r := rfl
theorem parCells_to {F : Nat → Fp} : ∀ {pcs : List PC} {k : Nat} {cs : List CV} {us : List Value} {ps : List P} {rs : List (Nat × Root)} {cs' : List CV} {base : List (Nat × Root)} {w : World} {γ : Nat → Value} {O : Own} {Z : Fp}, parCells k pcs cs = some (ps, rs, cs') →
    Cf.Inv ⟨rtOf base, w, γ, O, Z⟩ → Ent0 F ⟨rtOf base, w, γ, O, Z⟩ (k + pcs.length) → us.length = pcs.length → (∀ (i : Nat) pc, pcs[i]? = some pc → ∃ x u, cs[i]? = some x ∧ us[i]? = some u ∧ EntIn w Z (.val pc) (some x) u (F (k + i))) →
    ∃ γ' O', To ⟨rtOf base, w, γ, O, Z⟩ ⟨rtOf (rs ++ base), w, γ', O', Z⟩ ∧ Ent0 F ⟨rtOf (rs ++ base), w, γ', O', Z⟩ k ∧ cs' = cs.drop pcs.length ∧ ps.length = pcs.length ∧ (∀ (i : Nat) p u, ps[i]? = some p → us[i]? = some u → PRep1 (rtOf (rs ++ base)) w γ' Z p u) ∧
      ∀ (i : Nat) pc u, pcs[i]? = some pc → pc.s.isRow = true → pc.d ≠ 0 → us[i]? = some u → PRep1 (rtOf (rs ++ base)) w γ' Z (.ref (parId (k + i)) 0 [] none 0) u
  | [], k, cs, us, ps, rs, cs', base, w, γ, O, Z, h, hc, h0, hl, hE => by
    simp only [parCells, Option.some.injEq, Prod.mk.injEq] at h
    obtain ⟨rfl, rfl, rfl⟩ := h
    exact ⟨γ, O, To.refl hc, h0, rfl, rfl, fun i p u hp => by simp at hp, fun i pc u hp => by simp at hp⟩
  | pc :: pcs, k, [], us, ps, rs, cs', base, w, γ, O, Z, h, _, _, _, _ => by simp [parCells] at h
  | pc :: pcs, k, cv :: cs, [], ps, rs, cs', base, w, γ, O, Z, _, _, _, hl, _ => by cases hl
  | pc :: pcs, k, cv :: cs, u0 :: us, ps, rs, cs', base, w, γ, O, Z, h, hc, h0, hl, hE => by
    simp only [parCells] at h
    split at h
    · rename_i ps2 rs2 cs2 h2
      obtain ⟨γ1, O1, t1, e1, e2, e3, e4, e5⟩ := parCells_to (F := F) (us := us) h2 hc (by rw [show k + 1 + pcs.length = k + (pc :: pcs).length by simp only [List.length_cons]; omega]; exact h0) (by simpa using hl) fun i q hq => by
        obtain ⟨x, u, f1, f2, f3⟩ := hE (i + 1) q (by simpa using hq)
        exact ⟨x, u, by simpa using f1, by simpa using f2, by rw [show k + 1 + i = k + (i + 1) by omega]; exact f3⟩
      obtain ⟨x, u, f1, f2, f3⟩ := hE 0 pc rfl
      simp only [List.getElem?_cons_zero, Option.some.injEq] at f1 f2
      subst f1
      subst f2
      obtain ⟨f4, f5⟩ := f3
      obtain ⟨cvs, cvx⟩ := cv
      simp only at f4
      subst f4
      rw [Nat.add_zero] at f5
      cases hb : (pc.s.isRow && !(Nat.beq pc.d 0)) with
      | true =>
        rw [hb] at h
        simp only [Option.some.injEq, Prod.mk.injEq] at h
        obtain ⟨rfl, rfl, rfl⟩ := h
        obtain ⟨s, d, d2, kept⟩ := pc
        cases s with
        | row ss =>
          have hF : (fun b => O1 b = some (.det k)) = F k := by
            funext b
            have := e1.det b k
            simp only [this, eq_iff_iff]
            exact ⟨fun h => h.1, fun h => ⟨h, by omega⟩⟩
          obtain ⟨O2, t2, o2, p2⟩ := row_to' (c := ⟨rtOf (rs2 ++ base), w, γ1, O1, Z⟩) t1.inv (id := parId k) (e1.rt k (by omega)) (k := k) (d := d) (xs := cvx) (v := u0) (by rw [hF]; exact f5)
          refine ⟨upd γ1 (parId k) u0, O2, t1.trans t2, ⟨fun b i => ?_, fun i hi => ?_⟩, by rw [e2]; rfl, by simp [e3], fun i p u hp hu => ?_, fun i pc u hp h1 h2 hu => ?_⟩
          · rw [o2, e1.det]
            exact ⟨fun h => ⟨h.1.1, by omega⟩, fun h => ⟨⟨h.1, by omega⟩, by omega⟩⟩
          · show setRt (rtOf (rs2 ++ base)) (parId k) _ (parId i) = none
            rw [setRt_ne (fun e => by have := parId_inj e; omega)]
            exact e1.rt i (by omega)
          · cases i with
            | zero =>
              simp only [List.getElem?_cons_zero, Option.some.injEq] at hp hu
              subst hp
              subst hu
              exact p2
            | succ i => exact t2.stb _ _ (e4 i p u (by simpa using hp) (by simpa using hu))
          · cases i with
            | zero =>
              simp only [List.getElem?_cons_zero, Option.some.injEq] at hp hu
              subst hu
              exact p2
            | succ i =>
              have := t2.stb _ _ (e5 i pc u (by simpa using hp) h1 h2 (by simpa using hu))
              rw [show k + 1 + i = k + (i + 1) by omega] at this
              exact this
        | _ => cases hb
      | false =>
        rw [hb] at h
        simp only [Option.some.injEq, Prod.mk.injEq] at h
        obtain ⟨rfl, rfl, rfl⟩ := h
        have hnil : Rep w Z pc.s 0 cvx u0 nil' ∧ ∀ b, ¬ F k b := by
          simp only [Bool.and_eq_false_imp, Bool.not_eq_false', Nat.beq_eq] at hb
          cases hrow : pc.s.isRow with
          | true =>
            have hd := hb hrow
            rw [hd] at f5
            have e := f5.ro_nil'
            rw [e] at f5
            exact ⟨f5, fun b hbb => by rw [e] at hbb; exact hbb⟩
          | false =>
            have e := Rep.flat_nil hrow f5
            rw [e] at f5
            exact ⟨f5.scalar hrow, fun b hbb => by rw [e] at hbb; exact hbb⟩
        refine ⟨γ1, O1, t1, ⟨fun b i => ?_, fun i hi => e1.rt i (by omega)⟩, by rw [e2]; rfl, by simp [e3], fun i p u hp hu => ?_, fun i pc' u hp h1 h2 hu => ?_⟩
        · rw [e1.det]
          constructor
          · rintro ⟨q1, q2⟩
            refine ⟨q1, ?_⟩
            rcases Nat.eq_or_lt_of_le (Nat.le_of_lt_succ q2) with rfl | q
            · exact absurd q1 (hnil.2 b)
            · exact q
          · rintro ⟨q1, q2⟩; exact ⟨q1, by omega⟩
        · cases i with
          | zero =>
            simp only [List.getElem?_cons_zero, Option.some.injEq] at hp hu
            subst hp
            subst hu
            exact hnil.1
          | succ i => exact e4 i p u (by simpa using hp) (by simpa using hu)
        · cases i with
          | zero =>
            simp only [List.getElem?_cons_zero, Option.some.injEq] at hp
            subst hp
            simp only [h1, Bool.true_and, Bool.not_eq_false', Nat.beq_eq] at hb
            exact absurd hb h2
          | succ i =>
            have := e5 i pc' u (by simpa using hp) h1 h2 (by simpa using hu)
            rw [show k + 1 + i = k + (i + 1) by omega] at this
            exact this
    · cases h
theorem boxCells_at : ∀ {l : List PC} {cs : List CV} {vs : List VC} {cs' : List CV}, boxCells l cs = some (vs, cs') → cs' = cs.drop l.length ∧ vs.length = l.length ∧ l.length ≤ cs.length ∧ ∀ (j : Nat) x, vs[j]? = some x → ∃ pc cv, l[j]? = some pc ∧ cs[j]? = some cv ∧ x = ⟨0, 0, match pc.kept with | true => .mk pc.d cv | false => .lk cv⟩
  | [], cs, vs, cs', h => by
    simp only [boxCells, Option.some.injEq, Prod.mk.injEq] at h
    obtain ⟨rfl, rfl⟩ := h
    exact ⟨rfl, rfl, Nat.zero_le _, fun j x hx => by simp at hx⟩
  | _ :: _, [], _, _, h => by cases h
  | pc :: l, cv :: cs, vs, cs', h => by
    simp only [boxCells] at h
    split at h
    · rename_i vs2 r hb
      simp only [Option.some.injEq, Prod.mk.injEq] at h
      obtain ⟨rfl, rfl⟩ := h
      obtain ⟨h1, h2, h4, h3⟩ := boxCells_at hb
      refine ⟨h1, by simp [h2], by simpa using h4, fun j x hx => ?_⟩
      cases j with
      | zero =>
        simp only [List.getElem?_cons_zero, Option.some.injEq] at hx
        exact ⟨pc, cv, rfl, rfl, hx.symm⟩
      | succ j => exact h3 j x (by simpa using hx)
    · cases h
theorem pad_split : ∀ {pcs : List PC} {es : List Ent} {cs : List CV} {xs : List (Option CV)}, (pad (pcs.map .val ++ es) cs = some xs ∨ pad (pcs.map .cell ++ es) cs = some xs) → ∃ xs2, pcs.length ≤ cs.length ∧ xs = (cs.take pcs.length).map some ++ xs2 ∧ pad es (cs.drop pcs.length) = some xs2
  | [], es, cs, xs, h => ⟨xs, Nat.zero_le _, rfl, by simpa using h⟩
  | pc :: pcs, es, [], xs, h => by simp [pad] at h
  | pc :: pcs, es, c :: cs, xs, h => by
    have key : ∃ ys, (pad (pcs.map .val ++ es) cs = some ys ∨ pad (pcs.map .cell ++ es) cs = some ys) ∧ xs = some c :: ys := by
      rcases h with h | h
      · simp only [List.map_cons, List.cons_append, pad, Option.map_eq_some_iff] at h
        obtain ⟨ys, h1, rfl⟩ := h
        exact ⟨ys, .inl h1, rfl⟩
      · simp only [List.map_cons, List.cons_append, pad, Option.map_eq_some_iff] at h
        obtain ⟨ys, h1, rfl⟩ := h
        exact ⟨ys, .inr h1, rfl⟩
    obtain ⟨ys, h1, rfl⟩ := key
    obtain ⟨xs2, h2, h3, h4⟩ := pad_split h1
    exact ⟨xs2, by simpa using h2, by simp [h3], by simpa using h4⟩
/-- what is known of the parameters -/
structure ParF (c : Cf) (pars : List Par) (k : Nat) (us : List Value) : Prop where
  v : ∀ (i : Nat) pc u, (ents pars)[i]? = some (.val pc) → Ent.back (.val pc) = true → pc.s.isRow = true → us[i]? = some u → c.P1 (.ref (parId (k + i)) 0 [] none 0) u
  b : ∀ (i : Nat) n u, (ents pars)[i]? = some (.box n) → us[i]? = some u → c.P1 (.addr (parId (k + i)) 0 [] 0) u
  lk : ∀ (i : Nat) n j pc u, (ents pars)[i]? = some (.box n) → j < n → (ents pars)[i + 1 + j]? = some (.cell pc) → pc.kept = false → us[i + 1 + j]? = some u → c.lkAt (parId (k + i)) j u
theorem enter_to {F : Nat → Fp} {w : World} {Z : Fp} : ∀ {pars : List Par} {k : Nat} {cs : List CV} {xs : List (Option CV)} {vs us : List Value} {ps : List P} {rs : List (Nat × Root)} {γ : Nat → Value} {O : Own}, enter k pars cs = some (ps, rs) → pad (ents pars) cs = some xs → Flat w pars vs us →
    (∀ (i : Nat) e x u, (ents pars)[i]? = some e → xs[i]? = some x → us[i]? = some u → EntIn w Z e x u (F (k + i))) → Cf.Inv ⟨rtOf [], w, γ, O, Z⟩ → Ent0 F ⟨rtOf [], w, γ, O, Z⟩ (k + (ents pars).length) →
    ∃ γ' O', To ⟨rtOf [], w, γ, O, Z⟩ ⟨rtOf rs, w, γ', O', Z⟩ ∧ Ent0 F ⟨rtOf rs, w, γ', O', Z⟩ k ∧ ps.length = vs.length ∧ (∀ (i : Nat) p v, ps[i]? = some p → vs[i]? = some v → PRep (rtOf rs) w γ' Z p v) ∧ ParF ⟨rtOf rs, w, γ', O', Z⟩ pars k us
  | [], k, [], xs, vs, us, ps, rs, γ, O, h, hp, hf, hE, hc, h0 => by
    simp only [enter, Option.some.injEq, Prod.mk.injEq] at h
    obtain ⟨rfl, rfl⟩ := h
    cases vs with
    | nil => exact ⟨γ, O, To.refl hc, h0, rfl, fun i p v hp => by simp at hp, ⟨fun i pc u hp => by simp [ents] at hp, fun i n u hp => by simp [ents] at hp, fun i n j pc u hp => by simp [ents] at hp⟩⟩
    | cons _ _ => exact hf.elim
  | [], _, _ :: _, _, _, _, _, _, _, _, h, _, _, _, _, _ => by cases h
  | .val a pcs :: pars, k, cs, xs, [], us, ps, rs, γ, O, h, hp, hf, hE, hc, h0 => hf.elim
  | .ptr pcs :: pars, k, cs, xs, [], us, ps, rs, γ, O, h, hp, hf, hE, hc, h0 => hf.elim
  | .val a pcs :: pars, k, cs, xs, v :: vs, us, ps, rs, γ, O, h, hp, hf, hE, hc, h0 => by
    obtain ⟨us1, us2, rfl, hl1, hsl, hf2⟩ := hf
    obtain ⟨xs2, p1, rfl, p2⟩ := pad_split (.inl (by simpa [ents] using hp))
    simp only [enter] at h
    split at h
    · rename_i ps1 rs1 cs1 h1
      split at h
      · rename_i qs rs2 h2
        simp only [Option.some.injEq, Prod.mk.injEq] at h
        obtain ⟨rfl, rfl⟩ := h
        have hcs1 : cs1 = cs.drop pcs.length := by
          have key : ∀ {pcs : List PC} {k : Nat} {cs : List CV} {ps rs cs'}, parCells k pcs cs = some (ps, rs, cs') → cs' = cs.drop pcs.length := by
            intro pcs
            induction pcs with
            | nil => intro k cs ps rs cs' h; simp only [parCells, Option.some.injEq, Prod.mk.injEq] at h; exact h.2.2.symm
            | cons pc pcs ih =>
              intro k cs ps rs cs' h
              cases cs with
              | nil => simp [parCells] at h
              | cons c cs =>
                simp only [parCells] at h
                split at h
                · rename_i h3
                  split at h
                  · simp only [Option.some.injEq, Prod.mk.injEq] at h
                    rw [← h.2.2]; exact ih h3
                  · simp only [Option.some.injEq, Prod.mk.injEq] at h
                    rw [← h.2.2]; exact ih h3
                · cases h
          exact key h1
        subst hcs1
        have hlen : (ents (.val a pcs :: pars)).length = pcs.length + (ents pars).length := by simp [ents]
        have entR : ∀ (m : Nat), (ents (.val a pcs :: pars))[pcs.length + m]? = (ents pars)[m]? := fun m => by
          simp only [ents]
          have := some_right (a := pcs.map Ent.val) (b := ents pars) (k := m)
          rwa [List.length_map] at this
        obtain ⟨γ1, O1, t1, e1, e2, e3, e4⟩ := enter_to (F := F) h2 p2 hf2 (fun i e x u q1 q2 q3 => by
          have := hE (pcs.length + i) e x u (by rw [entR]; exact q1) (by
            have := some_right (a := (cs.take pcs.length).map some) (b := xs2) (k := i)
            rw [List.length_map, List.length_take, Nat.min_eq_left p1] at this
            rw [this]; exact q2) (by rw [← hl1, some_right]; exact q3)
          rw [show k + pcs.length + i = k + (pcs.length + i) by omega]
          exact this) hc (by rw [hlen] at h0; rw [show k + pcs.length + (ents pars).length = k + (pcs.length + (ents pars).length) by omega]; exact h0)
        obtain ⟨γ2, O2, t2, f1, f2, f3, f4, f5⟩ := parCells_to (F := F) h1 t1.inv e1 hl1 fun i pc hpc => by
          have hi := (List.getElem?_eq_some_iff.1 hpc).1
          have hcs : i < cs.length := by omega
          have hus : i < us1.length := by omega
          refine ⟨cs[i], us1[i], by simp [hcs], by simp [hus], ?_⟩
          refine hE i (.val pc) (some cs[i]) us1[i] ?_ ?_ ?_
          · simp only [ents]
            rw [List.getElem?_append_left (by simpa using hi), List.getElem?_map, hpc]; rfl
          · rw [List.getElem?_append_left (by simp; omega), List.getElem?_map, List.getElem?_take_of_lt hi]
            simp [hcs]
          · rw [List.getElem?_append_left hus]; simp [hus]
        refine ⟨γ2, O2, t1.trans t2, f1, by simp [e2], fun i p u hpp hu => ?_, ?_⟩
        · cases i with
          | zero =>
            simp only [List.getElem?_cons_zero, Option.some.injEq] at hpp hu
            subst hpp
            subst hu
            cases a with
            | true =>
              simp only [slotV] at hsl
              exact ⟨us1.toArray, hsl, by simp [f3, hl1], fun i p u hp hu => f4 i p u hp (by simpa using hu)⟩
            | false =>
              simp only [slotV] at hsl
              subst hsl
              simp only [List.length_cons, List.length_nil] at hl1
              match ps1, f3.trans hl1.symm with
              | [p], _ => exact PRep.of1 (c := ⟨_, w, γ2, O2, Z⟩) (f4 0 p v rfl rfl)
          | succ i => exact PR_stab (c := ⟨rtOf rs2, w, γ1, O1, Z⟩) (c' := ⟨_, w, γ2, O2, Z⟩) t2.stb (e3 i p u (by simpa using hpp) (by simpa using hu))
        · refine ⟨fun i pc u q1 qb q2 q4 => ?_, fun i n u q1 q2 => ?_, fun i n j pc u q1 q2 q3 q4 q5 => ?_⟩
          · simp only [ents] at q1
            rcases split_at q1 with q1' | ⟨m, rfl, q1'⟩
            · rw [List.getElem?_map, Option.map_eq_some_iff] at q1'
              obtain ⟨pc', g1, g2⟩ := q1'
              cases g2
              have hi := (List.getElem?_eq_some_iff.1 g1).1
              rw [List.getElem?_append_left (by omega)] at q4
              exact f5 i pc u g1 q2 (fun e => by simp [Ent.back, e] at qb) q4
            · rw [List.length_map, ← hl1, some_right] at q4
              have := t2.stb _ _ (e4.v m pc u q1' qb q2 q4)
              rw [List.length_map, show k + (pcs.length + m) = k + pcs.length + m by omega]
              exact this
          · simp only [ents] at q1
            rcases split_at q1 with q1' | ⟨m, rfl, q1'⟩
            · rw [List.getElem?_map, Option.map_eq_some_iff] at q1'
              obtain ⟨pc', g1, g2⟩ := q1'
              cases g2
            · rw [List.length_map, ← hl1, some_right] at q2
              have := t2.stb _ _ (e4.b m n u q1' q2)
              rw [List.length_map, show k + (pcs.length + m) = k + pcs.length + m by omega]
              exact this
          · simp only [ents] at q1
            rcases split_at q1 with q1' | ⟨m, rfl, q1'⟩
            · rw [List.getElem?_map, Option.map_eq_some_iff] at q1'
              obtain ⟨pc', g1, g2⟩ := q1'
              cases g2
            · rw [List.length_map] at q3 q5
              rw [show pcs.length + m + 1 + j = pcs.length + (m + 1 + j) by omega, entR] at q3
              rw [show pcs.length + m + 1 + j = us1.length + (m + 1 + j) by omega, some_right] at q5
              have := t2.lk _ _ _ (e4.lk m n j pc u q1' q2 q3 q4 q5)
              rw [List.length_map, show k + (pcs.length + m) = k + pcs.length + m by omega]
              exact this
      · cases h
    · cases h
  | .ptr pcs :: pars, k, cs, xs, v :: vs, us, ps, rs, γ, O, h, hp, hf, hE, hc, h0 => by
    obtain ⟨us1, us2, b, Et, fz, rfl, hl1, rfl, hheap, hfree, hf2⟩ := hf
    simp only [ents, pad, Option.map_eq_some_iff] at hp
    obtain ⟨xs', hp, rfl⟩ := hp
    obtain ⟨xs2, p1, rfl, p2⟩ := pad_split (.inr hp)
    simp only [enter] at h
    split at h
    · rename_i vcs cs1 h1
      split at h
      · rename_i qs rs2 h2
        simp only [Option.some.injEq, Prod.mk.injEq] at h
        obtain ⟨rfl, rfl⟩ := h
        obtain ⟨rfl, b2, b4, b3⟩ := boxCells_at h1
        have hlen : (ents (.ptr pcs :: pars)).length = 1 + pcs.length + (ents pars).length := by simp [ents]; omega
        have entR : ∀ (m : Nat), (ents (.ptr pcs :: pars))[pcs.length + m + 1]? = (ents pars)[m]? := fun m => by
          simp only [ents, List.getElem?_cons_succ]
          have := some_right (a := pcs.map Ent.cell) (b := ents pars) (k := m)
          rwa [List.length_map] at this
        obtain ⟨γ1, O1, t1, e1, e2, e3, e4⟩ := enter_to (F := F) h2 p2 hf2 (fun i e x u q1 q2 q3 => by
          have := hE (pcs.length + i + 1) e x u (by rw [entR]; exact q1) (by
            rw [List.getElem?_cons_succ]
            have := some_right (a := (cs.take pcs.length).map some) (b := xs2) (k := i)
            rw [List.length_map, List.length_take, Nat.min_eq_left p1] at this
            rw [this]; exact q2) (by rw [List.getElem?_cons_succ, ← hl1, some_right]; exact q3)
          rw [show k + 1 + pcs.length + i = k + (pcs.length + i + 1) by omega]
          exact this) hc (by rw [hlen] at h0; rw [show k + 1 + pcs.length + (ents pars).length = k + (1 + pcs.length + (ents pars).length) by omega]; exact h0)
        -- the box's cells
        have hcellE : ∀ (j : Nat) pc cv, pcs[j]? = some pc → cs[j]? = some cv → ∃ u, us1[j]? = some u ∧ EntIn w Z (.cell pc) (some cv) u (F (k + 1 + j)) := fun j pc cv q1 q2 => by
          have hi := (List.getElem?_eq_some_iff.1 q1).1
          have hus : j < us1.length := by omega
          refine ⟨us1[j], by simp [hus], ?_⟩
          rw [show k + 1 + j = k + (j + 1) by omega]
          refine hE (j + 1) (.cell pc) (some cv) us1[j] ?_ ?_ ?_
          · simp only [ents, List.getElem?_cons_succ]
            rw [List.getElem?_append_left (by simpa using hi), List.getElem?_map, q1]; rfl
          · rw [List.getElem?_cons_succ, List.getElem?_append_left (by simp; omega), List.getElem?_map, List.getElem?_take_of_lt hi, q2]; rfl
          · rw [List.getElem?_cons_succ, List.getElem?_append_left hus]; simp [hus]
        have hbox : ∃ b', (Value.pointer (some ⟨b, 0, none⟩)) = .pointer (some ⟨b', 0, none⟩) ∧ F (k + 0) = fun b'' => b'' = b' := hE 0 (.box pcs.length) none _ rfl rfl rfl
        obtain ⟨b', hb1, hb2⟩ := hbox
        obtain rfl : b = b' := by simpa using hb1
        rw [Nat.add_zero] at hb2
        have hB : ∀ b'', O1 b'' = some (.det k) ↔ b'' = b := fun b'' => by
          rw [show O1 b'' = some (.det k) ↔ _ from e1.det b'' k, hb2]
          exact ⟨fun h => h.1, fun h => ⟨h, by omega⟩⟩
        have hFj : ∀ j, j < pcs.length → (fun b'' => j < pcs.length ∧ O1 b'' = some (.det (k + 1 + j))) = F (k + 1 + j) := fun j hj => by
          funext b''
          have := e1.det b'' (k + 1 + j)
          simp only [this, eq_iff_iff]
          exact ⟨fun h => h.2.1, fun h => ⟨hj, h, by omega⟩⟩
        obtain ⟨O2, ⟨i1, l1, s1⟩, oN, oS⟩ := attach_to (c := ⟨rtOf rs2, w, γ1, O1, Z⟩) t1.inv (id := parId k) (e1.rt k (by omega)) (r := ⟨false, vcs⟩) (g := .pointer (some ⟨b, 0, none⟩)) (fun j b'' => j < pcs.length ∧ O1 b'' = some (.det (k + 1 + j))) (fun b'' => O1 b'' = some (.det k))
          (fun j b'' h => ⟨_, h.2⟩) (fun i j b'' h1 h2 => by
            have := h1.2.symm.trans h2.2
            simp only [Option.some.injEq, Site.det.injEq] at this
            omega) (fun h => by cases h) (fun _ => ⟨b, us1.toArray, Et, fz, rfl, hheap, by simp [b2, hl1], by simpa using hfree, hB, fun j hj => by
              have := hj.2.symm.trans ((hB b).2 rfl)
              simp only [Option.some.injEq, Site.det.injEq] at this
              omega, fun hz => (by have := (show O1 b = none from t1.inv.zo b hz); rw [(hB b).2 rfl] at this; cases this), .inr ⟨_, (hB b).2 rfl⟩⟩) (fun j b'' h => by rw [b2]; exact h.1) (fun j x hx => by
            obtain ⟨pc, cv, q1, q2, rfl⟩ := b3 j x hx
            obtain ⟨u, q3, q4⟩ := hcellE j pc cv q1 q2
            have hj := (List.getElem?_eq_some_iff.1 q1).1
            refine ⟨u, ?_, ?_⟩
            · simp only [PV.rootVal, World.cell?, hheap]
              simpa using q3
            · obtain ⟨q5, q6⟩ := q4
              cases hk : pc.kept with
              | true =>
                rw [hk] at q6
                simp only [hFj j hj]
                exact q6
              | false =>
                rw [hk] at q6
                simp only [cond_false] at q6
                have e := q6.ro_nil'
                rw [e] at q6
                refine ⟨q6, fun b'' hb'' => ?_⟩
                have h3 : F (k + 1 + j) b'' := by rw [← hFj j hj]; exact hb''
                rw [e] at h3
                exact h3)
        have t2 : To ⟨rtOf rs2, w, γ1, O1, Z⟩ ⟨rtOf ((parId k, ⟨false, vcs⟩) :: rs2), w, upd γ1 (parId k) (.pointer (some ⟨b, 0, none⟩)), O2, Z⟩ := To.attach (To.refl t1.inv) i1 l1 s1 rfl rfl (fun i h => setRt_some h) fun b'' hb hn => (oN b'' (fun j h => by rw [show O1 b'' = none from hn] at h; cases h.2) (fun h => by rw [show O1 b'' = none from hn] at h; cases h)).trans hn
        have hself : rtOf ((parId k, ⟨false, vcs⟩) :: rs2) (parId k) = some ⟨false, vcs⟩ := setRt_self
        have hγ : upd γ1 (parId k) (.pointer (some ⟨b, 0, none⟩)) (parId k) = .pointer (some ⟨b, 0, none⟩) := by simp [upd]
        have paddr : PRep1 (rtOf ((parId k, ⟨false, vcs⟩) :: rs2)) w (upd γ1 (parId k) (.pointer (some ⟨b, 0, none⟩))) Z (.addr (parId k) 0 [] 0) (.pointer (some ⟨b, 0, none⟩)) := ⟨_, hself, rfl, b, hγ, rfl⟩
        refine ⟨_, O2, t1.trans t2, ⟨fun b'' i => ?_, fun i hi => ?_⟩, by simp [e2], fun i p u hpp hu => ?_, ?_⟩
        · constructor
          · intro hb
            rcases oS b'' _ hb with ⟨j, e, _⟩ | ⟨e, _⟩ | ⟨e, hne, hnb⟩
            · cases e
            · cases e
            · obtain ⟨q1, q2⟩ := (e1.det b'' i).1 e
              refine ⟨q1, ?_⟩
              rcases Nat.lt_trichotomy i k with q | q | q
              · exact q
              · subst q; exact absurd e hnb
              · exact absurd ⟨by omega, by rw [show k + 1 + (i - (k + 1)) = i by omega]; exact e⟩ (hne (i - (k + 1)))
          · rintro ⟨q1, q2⟩
            have q3 := (e1.det b'' i).2 ⟨q1, by omega⟩
            refine (oN b'' (fun j h => ?_) (fun h => ?_)).trans q3
            · have := (show O1 b'' = _ from q3).symm.trans h.2
              simp only [Option.some.injEq, Site.det.injEq] at this
              omega
            · have := (show O1 b'' = _ from q3).symm.trans h
              simp only [Option.some.injEq, Site.det.injEq] at this
              omega
        · show setRt (rtOf rs2) (parId k) _ (parId i) = none
          rw [setRt_ne (fun e => by have := parId_inj e; omega)]
          exact e1.rt i (by omega)
        · cases i with
          | zero =>
            simp only [List.getElem?_cons_zero, Option.some.injEq] at hpp hu
            subst hpp
            subst hu
            exact PRep.of1 (c := ⟨_, w, _, O2, Z⟩) paddr
          | succ i => exact PR_stab (c := ⟨rtOf rs2, w, γ1, O1, Z⟩) (c' := ⟨_, w, _, O2, Z⟩) t2.stb (e3 i p u (by simpa using hpp) (by simpa using hu))
        · refine ⟨fun i pc u q1 qb q2 q4 => ?_, fun i n u q1 q2 => ?_, fun i n j pc u q1 q2 q3 q4 q5 => ?_⟩
          · cases i with
            | zero => simp [ents] at q1
            | succ i =>
              simp only [ents, List.getElem?_cons_succ] at q1
              rcases split_at q1 with q1' | ⟨m, rfl, q1'⟩
              · rw [List.getElem?_map, Option.map_eq_some_iff] at q1'
                obtain ⟨pc', g1, g2⟩ := q1'
                cases g2
              · rw [List.getElem?_cons_succ, List.length_map, ← hl1, some_right] at q4
                have := t2.stb _ _ (e4.v m pc u q1' qb q2 q4)
                rw [List.length_map, show k + (pcs.length + m + 1) = k + 1 + pcs.length + m by omega]
                exact this
          · cases i with
            | zero =>
              simp only [List.getElem?_cons_zero, Option.some.injEq] at q2
              subst q2
              exact paddr
            | succ i =>
              simp only [ents, List.getElem?_cons_succ] at q1
              rcases split_at q1 with q1' | ⟨m, rfl, q1'⟩
              · rw [List.getElem?_map, Option.map_eq_some_iff] at q1'
                obtain ⟨pc', g1, g2⟩ := q1'
                cases g2
              · rw [List.getElem?_cons_succ, List.length_map, ← hl1, some_right] at q2
                have := t2.stb _ _ (e4.b m n u q1' q2)
                rw [List.length_map, show k + (pcs.length + m + 1) = k + 1 + pcs.length + m by omega]
                exact this
          · cases i with
            | zero =>
              simp only [ents, List.getElem?_cons_zero, Option.some.injEq, Ent.box.injEq] at q1
              subst q1
              rw [show 0 + 1 + j = j + 1 by omega] at q3 q5
              simp only [ents, List.getElem?_cons_succ] at q3 q5
              rw [List.getElem?_append_left (by simpa using q2), List.getElem?_map, Option.map_eq_some_iff] at q3
              obtain ⟨pc', g1, g2⟩ := q3
              cases g2
              rw [List.getElem?_append_left (by omega)] at q5
              have hvl : j < vcs.length := by omega
              obtain ⟨pc2, cv, m1, m2, m3⟩ := b3 j vcs[j] (by simp [hvl])
              rw [g1] at m1
              obtain rfl := Option.some.inj m1
              refine ⟨_, vcs[j], cv, hself, by simp [hvl], by rw [m3, q4], ?_⟩
              simp only [Nat.add_zero, PV.rootVal, hγ, World.cell?, hheap]
              simpa using q5
            | succ i =>
              simp only [ents, List.getElem?_cons_succ] at q1
              rcases split_at q1 with q1' | ⟨m, rfl, q1'⟩
              · rw [List.getElem?_map, Option.map_eq_some_iff] at q1'
                obtain ⟨pc', g1, g2⟩ := q1'
                cases g2
              · rw [List.length_map] at q3 q5
                rw [show pcs.length + m + 1 + 1 + j = pcs.length + (m + 1 + j) + 1 by omega, entR] at q3
                rw [show pcs.length + m + 1 + 1 + j = us1.length + (m + 1 + j) + 1 by omega, List.getElem?_cons_succ, some_right] at q5
                have := t2.lk _ _ _ (e4.lk m n j pc u q1' q2 q3 q4 q5)
                rw [List.length_map, show k + (pcs.length + m + 1) = k + 1 + pcs.length + m by omega]
                exact this
      · cases h
    · cases h
end Go.PV

/- A function's end: what it hands back. -/
namespace Go.PV
variable {Pg : Program} {cx : Cx}
/-! ### results' values -/
def ResV (c : Cf) (q : Bool × List P) (v : Value) : Prop := match q.1 with
  | true => c.PR (.agg q.2) v
  | false => ∃ p, q.2 = [p] ∧ c.PR p v
def resOne (tmps : Array Value) : ResultVar → Sem Value
  | .tmp t => pure (tmps.getD t undef)
  | .cell a t => do loadVar t (← asAddr (tmps.getD a undef))
theorem results_eq (fn : Func) (tmps : Array Value) : results fn tmps = (do let vs ← fn.results.mapM (resOne tmps); pure (if h : vs.size = 1 then vs[0] else .tuple vs)) := by
  unfold results
  congr 1
theorem resPs_run (ok : ∀ t, tyOk Pg t (cx.ty t) = true) {nt : Nat} {c : Cf} {s : St} {a : Act} (hat : At nt c s a) : ∀ {l : List ResultVar} {pss : List (Bool × List P)}, resPs cx.ty s l = some pss → ∃ vs : List Value, vs.length = l.length ∧ pss.length = l.length ∧ (∀ (i : Nat) x v, l[i]? = some x → vs[i]? = some v → (resOne a.tmps x).run Pg c.w = .ok v c.w) ∧ ∀ (i : Nat) q v, pss[i]? = some q → vs[i]? = some v → ResV c q v
  | [], pss, h => by
    simp only [resPs, Option.some.injEq] at h
    subst h
    exact ⟨[], rfl, rfl, fun i x v hx => by simp at hx, fun i q v hq => by simp at hq⟩
  | .tmp t :: l, pss, h => by
    simp only [resPs] at h
    split at h
    · rename_i m hm
      obtain rfl := Option.some.inj h
      obtain ⟨vs, h1, h2, h3, h4⟩ := resPs_run ok hat hm
      refine ⟨a.tmps.getD t undef :: vs, by simp [h1], by simp [h2], fun i x v hx hv => ?_, fun i q v hq hv => ?_⟩
      · cases i with
        | zero =>
          simp only [List.getElem?_cons_zero, Option.some.injEq] at hx hv
          subst hx
          subst hv
          rfl
        | succ i => exact h3 i x v (by simpa using hx) (by simpa using hv)
      · cases i with
        | zero =>
          simp only [List.getElem?_cons_zero, Option.some.injEq] at hq hv
          subst hq
          subst hv
          have hp := hat.tm t
          unfold ResV
          simp only
          cases hs : s.tm t with
          | agg l => rw [hs] at hp; exact hp
          | _ => rw [hs] at hp; exact ⟨_, rfl, hp⟩
        | succ i => exact h4 i q v (by simpa using hq) (by simpa using hv)
    · cases h
  | .cell x t :: l, pss, h => by
    simp only [resPs] at h
    have hp := hat.tm x
    have fin : ∀ {q : Bool × List P} {v : Value} {m : List (Bool × List P)}, (resOne a.tmps (.cell x t)).run Pg c.w = .ok v c.w → ResV c q v → resPs cx.ty s l = some m → ∃ vs : List Value, vs.length = (ResultVar.cell x t :: l).length ∧ (q :: m).length = (ResultVar.cell x t :: l).length ∧ (∀ (i : Nat) y v, (ResultVar.cell x t :: l)[i]? = some y → vs[i]? = some v → (resOne a.tmps y).run Pg c.w = .ok v c.w) ∧ ∀ (i : Nat) p v, (q :: m)[i]? = some p → vs[i]? = some v → ResV c p v := by
      intro q v m hr hq hm
      obtain ⟨vs, h1, h2, h3, h4⟩ := resPs_run ok hat hm
      refine ⟨v :: vs, by simp [h1], by simp [h2], fun i y u hy hu => ?_, fun i p u hp hu => ?_⟩
      · cases i with
        | zero =>
          simp only [List.getElem?_cons_zero, Option.some.injEq] at hy hu
          subst hy
          subst hu
          exact hr
        | succ i => exact h3 i y u (by simpa using hy) (by simpa using hu)
      · cases i with
        | zero =>
          simp only [List.getElem?_cons_zero, Option.some.injEq] at hp hu
          subst hp
          subst hu
          exact hq
        | succ i => exact h4 i p u (by simpa using hp) (by simpa using hu)
    have load : ∀ {v : Value}, (Instr.loadAt t (a.tmps.getD x undef)).run Pg c.w = .ok v c.w → (resOne a.tmps (.cell x t)).run Pg c.w = .ok v c.w := by
      intro v hv
      unfold Instr.loadAt at hv
      show (do loadVar t (← asAddr (a.tmps.getD x undef)) : Sem Value).run Pg c.w = _
      cases hu : a.tmps.getD x undef with
      | pointer ad =>
        rw [hu] at hv
        cases ad with
        | some ad => exact hv
        | none => cases hv
      | _ => rw [hu] at hv; cases hv
    split at h
    · rename_i sh eb ht
      split at h
      · rename_i p hrd
        split at h
        · rename_i m hm
          obtain rfl := Option.some.inj h
          have hp1 : c.P1 (s.tm x) (a.tmps.getD x undef) := by
            refine P1_of hp (fun l e => ?_) (fun l e => ?_) <;> (rw [e] at hrd; simp [rdAt] at hrd)
          rw [← hat.rt] at hrd
          obtain ⟨v, e1, e2⟩ := load_cell ok hat.inv ht hrd hp1
          exact fin (load e1) ⟨p, rfl, PRep.of1 e2⟩ hm
        · cases h
      · cases h
    · rename_i offs cs ht
      split at h
      · rename_i ps hrd
        split at h
        · rename_i m hm
          obtain rfl := Option.some.inj h
          obtain ⟨_, _, _, _, _, hne, _⟩ := ty_strct ok ht
          have hp1 : c.P1 (s.tm x) (a.tmps.getD x undef) := by
            refine P1_of hp (fun l e => ?_) (fun l e => ?_) <;> (
              rw [e] at hrd
              cases hcl : cs.length with
              | zero => exact hne hcl
              | succ n => rw [hcl] at hrd; simp [rdCells, moveOn] at hrd)
          rw [← hat.rt] at hrd
          obtain ⟨v, e1, e2⟩ := load_strct ok hat.inv ht hrd hp1
          exact fin (load e1) e2 hm
        · cases h
      · cases h
    · cases h
theorem packV_eq (vs : Array Value) : (if h : vs.size = 1 then vs[0] else .tuple vs) = packV vs.toList := by
  obtain ⟨l⟩ := vs
  match l with
  | [] => rfl
  | [v] => rfl
  | a :: b :: l => rfl
theorem results_run (ok : ∀ t, tyOk Pg t (cx.ty t) = true) {nt : Nat} {c : Cf} {s : St} {a : Act} (hat : At nt c s a) {fn : Func} {pss : List (Bool × List P)} (h : resPs cx.ty s fn.results.toList = some pss) :
    ∃ vs : List Value, (results fn a.tmps).run Pg c.w = .ok (packV vs) c.w ∧ pss.length = vs.length ∧ ∀ (i : Nat) q v, pss[i]? = some q → vs[i]? = some v → ResV c q v := by
  obtain ⟨vs, h1, h2, h3, h4⟩ := resPs_run ok hat h
  let r : ResultVar → Value := fun x => match (resOne a.tmps x).run Pg c.w with
    | .ok v _ => v
    | _ => undef
  have hr : ∀ x ∈ fn.results.toList, (resOne a.tmps x).run Pg c.w = .ok (r x) c.w := fun x hx => by
    obtain ⟨i, hi⟩ := List.getElem?_of_mem hx
    have hlt := (List.getElem?_eq_some_iff.1 hi).1
    have := h3 i x vs[i] hi (by simp [h1, hlt])
    simp only [r, this]
  have hmap : fn.results.toList.map r = vs := by
    apply List.ext_getElem?
    intro i
    rw [List.getElem?_map]
    cases hi : fn.results.toList[i]? with
    | none =>
      rw [List.getElem?_eq_none_iff] at hi
      simp only [Option.map_none]
      exact (List.getElem?_eq_none (by omega)).symm
    | some x =>
      have hlt := (List.getElem?_eq_some_iff.1 hi).1
      have hv : vs[i]? = some vs[i] := by simp [h1, hlt]
      have := h3 i x _ hi hv
      rw [hv]
      simp only [Option.map_some, r, this]
  refine ⟨vs, ?_, by omega, h4⟩
  rw [results_eq, run_bind, mapA_run hr]
  simp only
  rw [packV_eq, Array.toList_map, hmap]
  rfl
/-! ### results are taken out -/
theorem outCells_to : ∀ {l : List (S × Nat)} {ps : List P} {i : Nat} {c : Cf} {cs : List CV} {rt' : Rt} {us : List Value}, outCells c.rt l ps = some (cs, rt') → c.Inv → (∀ b k, 2 * i ≤ k → c.O b ≠ some (.det k)) → us.length = ps.length → (∀ (n : Nat) p u, ps[n]? = some p → us[n]? = some u → c.P1 p u) →
    ∃ O' Z', To c ⟨rt', c.w, c.γ, O', Z'⟩ ∧ ResC c.w Z' O' l i cs us ∧ (∀ b k, k < 2 * i → (O' b = some (.det k) ↔ c.O b = some (.det k))) ∧ (∀ b k, 2 * (i + l.length) ≤ k → O' b ≠ some (.det k)) ∧ ∀ b k, i ≤ k → O' b ≠ some (.det (2 * k + 1))
  | [], [], i, c, cs, rt', us, h, hc, hd, hl, hP => by
    simp only [outCells, Option.some.injEq, Prod.mk.injEq] at h
    obtain ⟨rfl, rfl⟩ := h
    cases us with
    | nil => exact ⟨c.O, c.Z, To.refl hc, trivial, fun _ _ _ => Iff.rfl, fun b k hk => hd b k (by simpa using hk), fun b k hk => hd b _ (by omega)⟩
    | cons _ _ => cases hl
  | [], _ :: _, _, _, _, _, _, h, _, _, _, _ => by cases h
  | _ :: _, [], _, _, _, _, _, h, _, _, _, _ => by cases h
  | (s, d) :: l, p :: ps, i, c, cs, rt', [], h, hc, hd, hl, hP => by cases hl
  | (s, d) :: l, p :: ps, i, c, cs, rt', u :: us, h, hc, hd, hl, hP => by
    simp only [outCells] at h
    split at h
    · rename_i cv m rt1 htk
      obtain ⟨hm, h⟩ := cond_s h
      have hm : d ≤ m := by simpa using hm
      split at h
      · rename_i cs2 r h2
        simp only [Option.some.injEq, Prod.mk.injEq] at h
        obtain ⟨rfl, rfl⟩ := h
        obtain ⟨O1, Z1, t1, p1, d1⟩ := takeCells_to (k := 2 * i) (vs := [u]) hc htk (fun b k hk => hd b k hk) rfl (fun n q w hq hw => by
          cases n with
          | zero =>
            simp only [List.getElem?_cons_zero, Option.some.injEq] at hq hw
            subst hq
            subst hw
            exact hP 0 _ _ rfl rfl
          | succ n => simp at hq) hm
        obtain ⟨p1, _⟩ := p1
        have hs : cv.s = s := by
          cases s with
          | row ss =>
            simp only [takeCells] at htk
            split at htk
            · simp only [Option.some.injEq, Prod.mk.injEq, List.cons.injEq, and_true] at htk
              rw [← htk.1]
            · cases htk
          | _ =>
            simp only [takeCells] at htk
            split at htk
            · split at htk
              · simp only [Option.some.injEq, Prod.mk.injEq, List.cons.injEq, and_true] at htk
                rw [← htk.1]
              · cases htk
            · cases htk
        obtain ⟨O2, Z2, t2, r2, a2, b2, c2⟩ := outCells_to (i := i + 1) (c := ⟨rt1, c.w, c.γ, O1, Z1⟩) (us := us) h2 t1.inv (fun b k hk hb => hd b k (by omega) ((d1 b k (.inr (by simp only [List.length_cons, List.length_nil]; omega))).1 hb)) (by simpa using hl) fun n q w hq hw => t1.stb _ _ (hP (n + 1) q w (by simpa using hq) (by simpa using hw))
        refine ⟨O2, Z2, t1.trans t2, ⟨hs, ?_, r2⟩, fun b k hk => (a2 b k (by omega)).trans (d1 b k (.inl hk)), fun b k hk => b2 b k (by simp only [List.length_cons] at hk; omega), fun b k hk hb => ?_⟩
        · have e : (fun b => O2 b = some (.det (2 * i))) = (fun b => O1 b = some (.det (2 * i))) := by funext b; exact propext (a2 b _ (by omega))
          rw [e]
          exact p1.mono t2.ext.z
        · rcases Nat.eq_or_lt_of_le hk with rfl | hlt
          · exact hd b _ (by omega) ((d1 b _ (.inr (by simp only [List.length_cons, List.length_nil]; omega))).1 ((a2 b _ (by omega)).1 hb))
          · exact c2 b k hlt hb
      · cases h
    · cases h
theorem outAll_to : ∀ {rs : List (RK × List (S × Nat))} {pss : List (Bool × List P)} {i : Nat} {c : Cf} {cs : List CV} {rt' : Rt} {vs : List Value}, outAll c.rt rs pss = some (cs, rt') → c.Inv → (∀ b k, 2 * i ≤ k → c.O b ≠ some (.det k)) → pss.length = vs.length → (∀ (n : Nat) q v, pss[n]? = some q → vs[n]? = some v → ResV c q v) →
    ∃ O' Z', To c ⟨rt', c.w, c.γ, O', Z'⟩ ∧ ResR c.w Z' O' rs i cs vs ∧ (∀ b k, k < 2 * i → (O' b = some (.det k) ↔ c.O b = some (.det k))) ∧ ∀ b k, 2 * (i + (rs.flatMap (·.2)).length) ≤ k → O' b ≠ some (.det k)
  | [], [], i, c, cs, rt', vs, h, hc, hd, hl, hP => by
    simp only [outAll, Option.some.injEq, Prod.mk.injEq] at h
    obtain ⟨rfl, rfl⟩ := h
    cases vs with
    | nil => exact ⟨c.O, c.Z, To.refl hc, trivial, fun _ _ _ => Iff.rfl, fun b k hk => hd b k (by simpa using hk)⟩
    | cons _ _ => cases hl
  | [], _ :: _, _, _, _, _, _, h, _, _, _, _ => by cases h
  | _ :: _, [], _, _, _, _, _, h, _, _, _, _ => by cases h
  | (k, l) :: rs, (g, ps) :: pss, i, c, cs, rt', [], h, hc, hd, hl, hP => by cases hl
  | (k, l) :: rs, (g, ps) :: pss, i, c, cs, rt', v :: vs, h, hc, hd, hl, hP => by
    simp only [outAll] at h
    obtain ⟨hk, h⟩ := cond_n h
    simp only [Bool.or_eq_false_iff] at hk
    split at h
    · rename_i cs1 rt1 h1
      split at h
      · rename_i ds r h2
        simp only [Option.some.injEq, Prod.mk.injEq] at h
        obtain ⟨rfl, rfl⟩ := h
        have hv := hP 0 (g, ps) v rfl rfl
        have key : ∃ us : List Value, us.length = ps.length ∧ (∀ (n : Nat) p u, ps[n]? = some p → us[n]? = some u → c.P1 p u) ∧ (match k with | .agg => v = .agg us.toArray | .one => us = [v] | .ptr => False) := by
          cases k with
          | ptr => exact absurd hk.1 (by simp [RK.isPtr])
          | agg =>
            have hg : g = true := by cases g <;> simp [RK.isAgg] at hk ⊢
            subst hg
            obtain ⟨ws, e1, e2, e3⟩ := hv
            exact ⟨ws.toList, by simpa using e2, fun n p u hp hu => e3 n p u hp (by simpa using hu), by simpa using e1⟩
          | one =>
            have hg : g = false := by cases g <;> simp [RK.isAgg] at hk ⊢
            subst hg
            obtain ⟨p, hp, hpr⟩ := hv
            simp only at hp
            subst hp
            refine ⟨[v], rfl, fun n q u hq hu => ?_, rfl⟩
            cases n with
            | zero =>
              simp only [List.getElem?_cons_zero, Option.some.injEq] at hq hu
              subst hq
              subst hu
              cases l with
              | nil => simp [outCells] at h1
              | cons sd l =>
                obtain ⟨s, d⟩ := sd
                simp only [outCells] at h1
                split at h1
                · rename_i htk
                  exact src_P1 hpr ((takeCells_src htk).2 _ (by simp))
                · cases h1
            | succ n => simp at hq
        obtain ⟨us, k1, k2, k3⟩ := key
        obtain ⟨O1, Z1, t1, r1, a1, b1, c1⟩ := outCells_to (i := i) h1 hc hd k1 k2
        obtain ⟨O2, Z2, t2, r2, a2, b2⟩ := outAll_to (i := i + l.length) (c := ⟨rt1, c.w, c.γ, O1, Z1⟩) (vs := vs) h2 t1.inv (fun b k hk => b1 b k (by omega)) (by simpa using hl) fun n q w hq hw => by
          have := hP (n + 1) q w (by simpa using hq) (by simpa using hw)
          unfold ResV at this ⊢
          cases hq1 : q.1 with
          | true => rw [hq1] at this; exact PR_stab t1.stb this
          | false => rw [hq1] at this; obtain ⟨p, e1, e2⟩ := this; exact ⟨p, e1, PR_stab t1.stb e2⟩
        refine ⟨O2, Z2, t1.trans t2, ⟨cs1, ds, us, rfl, ResC.map (fun k hk1 hk2 b => a2 b _ (by omega)) (fun s d _ x u G hr => hr.mono t2.ext.z) r1, fun b k' hk1 hk2 hb => ?_, ?_, r2⟩, fun b k hk => (a2 b k (by omega)).trans (a1 b k hk), fun b k hk => b2 b k (by simp only [List.flatMap_cons, List.length_append] at hk; omega)⟩
        · exact absurd ((a2 b _ (by omega)).1 hb) (c1 b k' hk1)
        · cases k with
          | one => exact k3
          | agg => exact k3
          | ptr => exact k3.elim
      · cases h
    · cases h
end Go.PV

/- What comes back, and all of it together. -/
namespace Go.PV
variable {Pg : Program} {cx : Cx}
theorem ents_cell : ∀ {pars : List Par} {m : Nat} {pc : PC}, (ents pars)[m]? = some (.cell pc) → ∃ i n j, (ents pars)[i]? = some (.box n) ∧ m = i + 1 + j ∧ j < n
  | [], m, pc, h => by simp [ents] at h
  | .val a l :: ps, m, pc, h => by
    simp only [ents] at h
    rcases split_at h with h1 | ⟨q, rfl, h1⟩
    · rw [List.getElem?_map, Option.map_eq_some_iff] at h1
      obtain ⟨_, _, e⟩ := h1; cases e
    · obtain ⟨i, n, j, g1, g2, g3⟩ := ents_cell h1
      refine ⟨(l.map Ent.val).length + i, n, j, ?_, by omega, g3⟩
      simp only [ents]; rw [some_right]; exact g1
  | .ptr l :: ps, m, pc, h => by
    simp only [ents] at h
    cases m with
    | zero => simp at h
    | succ m =>
      simp only [List.getElem?_cons_succ] at h
      rcases split_at h with h1 | ⟨q, rfl, h1⟩
      · exact ⟨0, l.length, m, rfl, by omega, by have := (List.getElem?_eq_some_iff.1 h1).1; simpa using this⟩
      · obtain ⟨i, n, j, g1, g2, g3⟩ := ents_cell h1
        refine ⟨(l.map Ent.cell).length + i + 1, n, j, ?_, by omega, g3⟩
        simp only [ents, List.getElem?_cons_succ]; rw [some_right]; exact g1
theorem ents_box : ∀ {pars : List Par} {i n : Nat}, (ents pars)[i]? = some (.box n) → ∀ j, j < n → ∃ pc, (ents pars)[i + 1 + j]? = some (.cell pc)
  | [], i, n, h, j, _ => by simp [ents] at h
  | .val a l :: ps, i, n, h, j, hj => by
    simp only [ents] at h
    rcases split_at h with h1 | ⟨q, rfl, h1⟩
    · rw [List.getElem?_map, Option.map_eq_some_iff] at h1
      obtain ⟨_, _, e⟩ := h1; cases e
    · obtain ⟨pc, g⟩ := ents_box h1 j hj
      refine ⟨pc, ?_⟩
      simp only [ents]
      rw [show (l.map Ent.val).length + q + 1 + j = (l.map Ent.val).length + (q + 1 + j) by omega, some_right]; exact g
  | .ptr l :: ps, i, n, h, j, hj => by
    simp only [ents] at h
    cases i with
    | zero =>
      simp only [List.getElem?_cons_zero, Option.some.injEq, Ent.box.injEq] at h
      subst h
      refine ⟨l[j], ?_⟩
      simp only [ents]
      rw [show 0 + 1 + j = j + 1 by omega, List.getElem?_cons_succ, List.getElem?_append_left (by simpa using hj), List.getElem?_map]
      simp [hj]
    | succ i =>
      simp only [List.getElem?_cons_succ] at h
      rcases split_at h with h1 | ⟨q, rfl, h1⟩
      · rw [List.getElem?_map, Option.map_eq_some_iff] at h1
        obtain ⟨_, _, e⟩ := h1; cases e
      · obtain ⟨pc, g⟩ := ents_box h1 j hj
        refine ⟨pc, ?_⟩
        simp only [ents]
        rw [show (l.map Ent.cell).length + q + 1 + 1 + j = (l.map Ent.cell).length + (q + 1 + j) + 1 by omega, List.getElem?_cons_succ, some_right]; exact g
theorem fill_append : ∀ {es es2 : List Ent} {a b : List CV} {y y2 : List (Option CV)}, fill es a = some y → fill es2 b = some y2 → fill (es ++ es2) (a ++ b) = some (y ++ y2)
  | [], es2, [], b, y, y2, h, h2 => by
    simp only [fill, Option.some.injEq] at h
    subst h
    exact h2
  | [], _, _ :: _, _, _, _, h, _ => by cases h
  | e :: es, es2, a, b, y, y2, h, h2 => by
    simp only [fill] at h
    simp only [List.cons_append, fill]
    cases hb : e.back with
    | true =>
      rw [hb] at h
      simp only [cond_true] at h ⊢
      split at h
      · split at h
        · rename_i l hl
          obtain rfl := Option.some.inj h
          simp only [List.cons_append, fill_append hl h2]
        · cases h
      · cases h
    | false =>
      rw [hb] at h
      simp only [cond_false] at h ⊢
      split at h
      · rename_i l hl
        obtain rfl := Option.some.inj h
        simp only [List.cons_append, fill_append hl h2]
      · cases h
theorem backVal_spec {rt : Rt} : ∀ {l : List PC} {k : Nat} {bs : List CV}, backVal rt k l = some bs → ∃ ys, fill (l.map .val) bs = some ys ∧ ∀ (i : Nat) pc, l[i]? = some pc → Ent.back (.val pc) = true → ∃ r x d yv, ys[i]? = some (some yv) ∧ rt (parId (k + i)) = some r ∧ r.virt = true ∧ r.cells[0]? = some x ∧ x.c = .mk d yv ∧ pc.d2 ≤ d ∧ x.hv = 0 ∧ pc.s.isRow = true ∧ yv.s = pc.s
  | [], k, bs, h => by
    simp only [backVal, Option.some.injEq] at h
    subst h
    exact ⟨[], rfl, fun i pc hp => by simp at hp⟩
  | pc :: l, k, bs, h => by
    simp only [backVal] at h
    cases hb : (pc.kept && !(Nat.beq pc.d 0)) with
    | true =>
      rw [hb] at h
      simp only [cond_true] at h
      split at h
      · rename_i x hx
        split at h
        · rename_i d c hxc
          obtain ⟨hc, h⟩ := cond_s h
          simp only [Bool.and_eq_true, Nat.ble_eq, Nat.beq_eq] at hc
          split at h
          · rename_i y m hy hm
            obtain rfl := Option.some.inj h
            obtain ⟨ys, h1, h2⟩ := backVal_spec hm
            have hcy := CV.as_some hy
            subst hcy
            obtain ⟨r, hr, hx0⟩ := cellAt_some hx
            have hv : r.virt = true := by have := hc.1.2; unfold isVirt at this; rw [hr] at this; exact this
            refine ⟨some ⟨pc.s, y⟩ :: ys, ?_, fun i pc' hp hb' => ?_⟩
            · have hb2 : Ent.back (.val pc) = true := hb
              simp only [List.map_cons, fill, hb2, cond_true, h1]
            · cases i with
              | zero =>
                simp only [List.getElem?_cons_zero, Option.some.injEq] at hp
                subst hp
                exact ⟨r, x, d, _, rfl, hr, hv, hx0, hxc, hc.1.1.1, hc.1.1.2, hc.2, rfl⟩
              | succ i =>
                obtain ⟨r, x, d, yv, g1, g2, g3⟩ := h2 i pc' (by simpa using hp) hb'
                exact ⟨r, x, d, yv, by simpa using g1, by rw [show k + (i + 1) = k + 1 + i by omega]; exact g2, g3⟩
          · cases h
        · cases h
      · cases h
    | false =>
      rw [hb] at h
      simp only [cond_false] at h
      obtain ⟨ys, h1, h2⟩ := backVal_spec h
      refine ⟨none :: ys, ?_, fun i pc' hp hb' => ?_⟩
      · have hb2 : Ent.back (.val pc) = false := hb
        simp only [List.map_cons, fill, hb2, cond_false, h1]
      · cases i with
        | zero =>
          simp only [List.getElem?_cons_zero, Option.some.injEq] at hp
          subst hp
          rw [show Ent.back (.val pc) = false from hb] at hb'
          cases hb'
        | succ i =>
          obtain ⟨r, x, d, yv, g1, g2, g3⟩ := h2 i pc' (by simpa using hp) hb'
          exact ⟨r, x, d, yv, by simpa using g1, by rw [show k + (i + 1) = k + 1 + i by omega]; exact g2, g3⟩
theorem backPtr_spec {rt : Rt} {k : Nat} {r : Root} (hr : rt (parId k) = some r) : ∀ {l : List PC} {j : Nat} {bs : List CV}, backPtr rt k l j = some bs → ∃ ys, fill (l.map .cell) bs = some ys ∧ ∀ (i : Nat) pc, l[i]? = some pc → pc.kept = true → ∃ x d yv, ys[i]? = some (some yv) ∧ r.cells[j + i]? = some x ∧ x.c = .mk d yv ∧ (pc.d2 ≤ d ∨ pc.s.isRow = false) ∧ yv.s = pc.s
  | [], j, bs, h => by
    simp only [backPtr, Option.some.injEq] at h
    subst h
    exact ⟨[], rfl, fun i pc hp => by simp at hp⟩
  | pc :: l, j, bs, h => by
    simp only [backPtr] at h
    cases hb : pc.kept with
    | true =>
      rw [hb] at h
      simp only [Bool.not_true, cond_false] at h
      split at h
      · rename_i x hx
        split at h
        · rename_i d c hxc
          obtain ⟨hc, h⟩ := cond_s h
          simp only [Bool.or_eq_true, Nat.ble_eq, Bool.not_eq_true'] at hc
          split at h
          · rename_i y m hy hm
            obtain rfl := Option.some.inj h
            obtain ⟨ys, h1, h2⟩ := backPtr_spec hr hm
            have hcy := CV.as_some hy
            subst hcy
            obtain ⟨r', hr', hx0⟩ := cellAt_some hx
            rw [hr] at hr'
            obtain rfl := Option.some.inj hr'
            refine ⟨some ⟨pc.s, y⟩ :: ys, ?_, fun i pc' hp hb' => ?_⟩
            · have hb2 : Ent.back (.cell pc) = true := hb
              simp only [List.map_cons, fill, hb2, cond_true, h1]
            · cases i with
              | zero =>
                simp only [List.getElem?_cons_zero, Option.some.injEq] at hp
                subst hp
                exact ⟨x, d, _, rfl, hx0, hxc, hc, rfl⟩
              | succ i =>
                obtain ⟨x, d, yv, g1, g2, g3⟩ := h2 i pc' (by simpa using hp) hb'
                exact ⟨x, d, yv, by simpa using g1, by rw [show j + (i + 1) = j + 1 + i by omega]; exact g2, g3⟩
          · cases h
        · cases h
      · cases h
    | false =>
      rw [hb] at h
      simp only [Bool.not_false, cond_true] at h
      obtain ⟨ys, h1, h2⟩ := backPtr_spec hr h
      refine ⟨none :: ys, ?_, fun i pc' hp hb' => ?_⟩
      · have hb2 : Ent.back (.cell pc) = false := hb
        simp only [List.map_cons, fill, hb2, cond_false, h1]
      · cases i with
        | zero =>
          simp only [List.getElem?_cons_zero, Option.some.injEq] at hp
          subst hp
          rw [hb] at hb'
          cases hb'
        | succ i =>
          obtain ⟨x, d, yv, g1, g2, g3⟩ := h2 i pc' (by simpa using hp) hb'
          exact ⟨x, d, yv, by simpa using g1, by rw [show j + (i + 1) = j + 1 + i by omega]; exact g2, g3⟩
structure BackF (rt : Rt) (pars : List Par) (k : Nat) (ys : List (Option CV)) : Prop where
  v : ∀ (i : Nat) pc, (ents pars)[i]? = some (.val pc) → Ent.back (.val pc) = true → ∃ r x d yv, ys[i]? = some (some yv) ∧ rt (parId (k + i)) = some r ∧ r.virt = true ∧ r.cells[0]? = some x ∧ x.c = .mk d yv ∧ pc.d2 ≤ d ∧ x.hv = 0 ∧ pc.s.isRow = true ∧ yv.s = pc.s
  b : ∀ (i : Nat) n, (ents pars)[i]? = some (.box n) → ∃ r, rt (parId (k + i)) = some r ∧ r.cells.length = n ∧ ∀ (j : Nat) pc, j < n → (ents pars)[i + 1 + j]? = some (.cell pc) → pc.kept = true →
    ∃ x d yv, ys[i + 1 + j]? = some (some yv) ∧ r.cells[j]? = some x ∧ x.c = .mk d yv ∧ (pc.d2 ≤ d ∨ pc.s.isRow = false) ∧ yv.s = pc.s
theorem backs_spec {rt : Rt} : ∀ {pars : List Par} {k : Nat} {bs : List CV}, backs rt k pars = some bs → ∃ ys, fill (ents pars) bs = some ys ∧ BackF rt pars k ys
  | [], k, bs, h => by
    simp only [backs, Option.some.injEq] at h
    subst h
    exact ⟨[], rfl, fun i pc hp => by simp [ents] at hp, fun i n hp => by simp [ents] at hp⟩
  | .val a l :: ps, k, bs, h => by
    simp only [backs] at h
    split at h
    · rename_i x y hx hy
      obtain rfl := Option.some.inj h
      obtain ⟨y1, f1, f2⟩ := backVal_spec hx
      obtain ⟨y2, g1, g2⟩ := backs_spec hy
      have hl := (fill_at f1).1
      rw [List.length_map] at hl
      refine ⟨y1 ++ y2, fill_append f1 g1, fun i pc hp hb => ?_, fun i n hp => ?_⟩
      · simp only [ents] at hp
        rcases split_at hp with hp1 | ⟨m, rfl, hp1⟩
        · rw [List.getElem?_map, Option.map_eq_some_iff] at hp1
          obtain ⟨pc', q1, q2⟩ := hp1
          cases q2
          obtain ⟨r, x, d, yv, e1, e2⟩ := f2 i pc q1 hb
          exact ⟨r, x, d, yv, some_left e1, e2⟩
        · obtain ⟨r, x, d, yv, e1, e2, e3⟩ := g2.v m pc hp1 hb
          rw [List.length_map]
          exact ⟨r, x, d, yv, by rw [← hl, some_right]; exact e1, by rw [show k + (l.length + m) = k + l.length + m by omega]; exact e2, e3⟩
      · simp only [ents] at hp
        rcases split_at hp with hp1 | ⟨m, rfl, hp1⟩
        · rw [List.getElem?_map, Option.map_eq_some_iff] at hp1
          obtain ⟨pc', q1, q2⟩ := hp1
          cases q2
        · obtain ⟨r, e1, e2, e3⟩ := g2.b m n hp1
          rw [List.length_map]
          refine ⟨r, by rw [show k + (l.length + m) = k + l.length + m by omega]; exact e1, e2, fun j pc hj hc hk => ?_⟩
          have hc' : (ents ps)[m + 1 + j]? = some (.cell pc) := by
            simp only [ents] at hc
            have := some_right (a := l.map Ent.val) (b := ents ps) (k := m + 1 + j)
            rw [List.length_map, show l.length + (m + 1 + j) = l.length + m + 1 + j by omega] at this
            rw [← this]; exact hc
          obtain ⟨x, d, yv, q1, q2⟩ := e3 j pc hj hc' hk
          exact ⟨x, d, yv, by rw [show l.length + m + 1 + j = y1.length + (m + 1 + j) by omega, some_right]; exact q1, q2⟩
    · cases h
  | .ptr l :: ps, k, bs, h => by
    simp only [backs] at h
    split at h
    · rename_i r hr
      obtain ⟨hlen, h⟩ := cond_s h
      have hlen := Nat.eq_of_beq_eq_true hlen
      split at h
      · rename_i x y hx hy
        obtain rfl := Option.some.inj h
        obtain ⟨y1, f1, f2⟩ := backPtr_spec hr hx
        obtain ⟨y2, g1, g2⟩ := backs_spec hy
        have hl := (fill_at f1).1
        rw [List.length_map] at hl
        have f3 : fill (ents (.ptr l :: ps)) (x ++ y) = some (none :: (y1 ++ y2)) := by
          simp only [ents, fill, Ent.back, cond_false, fill_append f1 g1]
        refine ⟨none :: (y1 ++ y2), f3, fun i pc hp hb => ?_, fun i n hp => ?_⟩
        · simp only [ents] at hp
          cases i with
          | zero => simp at hp
          | succ i =>
            simp only [List.getElem?_cons_succ] at hp
            rcases split_at hp with hp1 | ⟨m, rfl, hp1⟩
            · rw [List.getElem?_map, Option.map_eq_some_iff] at hp1
              obtain ⟨pc', q1, q2⟩ := hp1
              cases q2
            · obtain ⟨r, x, d, yv, e1, e2, e3⟩ := g2.v m pc hp1 hb
              rw [List.length_map]
              exact ⟨r, x, d, yv, by rw [List.getElem?_cons_succ, ← hl, some_right]; exact e1, by rw [show k + (l.length + m + 1) = k + 1 + l.length + m by omega]; exact e2, e3⟩
        · simp only [ents] at hp
          cases i with
          | zero =>
            simp only [List.getElem?_cons_zero, Option.some.injEq, Ent.box.injEq] at hp
            subst hp
            refine ⟨r, hr, hlen, fun j pc hj hc hk => ?_⟩
            simp only [ents] at hc
            rw [show 0 + 1 + j = j + 1 by omega, List.getElem?_cons_succ, List.getElem?_append_left (by simpa using hj), List.getElem?_map, Option.map_eq_some_iff] at hc
            obtain ⟨pc', q1, q2⟩ := hc
            cases q2
            obtain ⟨x, d, yv, e1, e2⟩ := f2 j pc q1 hk
            rw [Nat.zero_add] at e2
            exact ⟨x, d, yv, by rw [show 0 + 1 + j = j + 1 by omega, List.getElem?_cons_succ]; exact some_left e1, e2⟩
          | succ i =>
            simp only [List.getElem?_cons_succ] at hp
            rcases split_at hp with hp1 | ⟨m, rfl, hp1⟩
            · rw [List.getElem?_map, Option.map_eq_some_iff] at hp1
              obtain ⟨pc', q1, q2⟩ := hp1
              cases q2
            · obtain ⟨r, e1, e2, e3⟩ := g2.b m n hp1
              rw [List.length_map]
              refine ⟨r, by rw [show k + (l.length + m + 1) = k + 1 + l.length + m by omega]; exact e1, e2, fun j pc hj hc hk => ?_⟩
              have hc' : (ents ps)[m + 1 + j]? = some (.cell pc) := by
                simp only [ents] at hc
                rw [show l.length + m + 1 + 1 + j = l.length + (m + 1 + j) + 1 by omega, List.getElem?_cons_succ] at hc
                have := some_right (a := l.map Ent.cell) (b := ents ps) (k := m + 1 + j)
                rw [List.length_map] at this
                rw [← this]; exact hc
              obtain ⟨x, d, yv, q1, q2⟩ := e3 j pc hj hc' hk
              exact ⟨x, d, yv, by rw [show l.length + m + 1 + 1 + j = y1.length + (m + 1 + j) + 1 by omega, List.getElem?_cons_succ, some_right]; exact q1, q2⟩
      · cases h
    · cases h
/-! ### behind it, flat -/
theorem flat_new {w w' : World} : ∀ {pars : List Par} {vs us : List Value}, Flat w pars vs us → (∀ (i : Nat) n u, (ents pars)[i]? = some (.box n) → us[i]? = some u → ∃ b ca E fz, u = .pointer (some ⟨b, 0, none⟩) ∧ w'.heap[b]? = some (.cells ca E fz) ∧ ca.size = n ∧ free fz n) → ∃ us', Flat w' pars vs us'
  | [], [], us, h, _ => ⟨[], rfl⟩
  | [], _ :: _, _, h, _ => h.elim
  | .val _ _ :: _, [], _, h, _ => h.elim
  | .ptr _ :: _, [], _, h, _ => h.elim
  | .val a pcs :: pars, v :: vs, us, h, hb => by
    obtain ⟨us1, us2, rfl, h1, h2, h3⟩ := h
    obtain ⟨us', h4⟩ := flat_new h3 fun i n u q1 q2 => hb (pcs.length + i) n u (by
      simp only [ents]
      have := some_right (a := pcs.map Ent.val) (b := ents pars) (k := i)
      rw [List.length_map] at this
      rw [this]; exact q1) (by rw [← h1, some_right]; exact q2)
    exact ⟨us1 ++ us', us1, us', rfl, h1, h2, h4⟩
  | .ptr pcs :: pars, v :: vs, us, h, hb => by
    obtain ⟨us1, us2, b, E, fz, rfl, h1, rfl, h2, h3, h5⟩ := h
    obtain ⟨us', h4⟩ := flat_new h5 fun i n u q1 q2 => hb (pcs.length + i + 1) n u (by
      simp only [ents, List.getElem?_cons_succ]
      have := some_right (a := pcs.map Ent.cell) (b := ents pars) (k := i)
      rw [List.length_map] at this
      rw [this]; exact q1) (by rw [List.getElem?_cons_succ, ← h1, some_right]; exact q2)
    obtain ⟨b', ca, E', fz', e1, e2, e3, e4⟩ := hb 0 pcs.length _ rfl rfl
    obtain rfl : b = b' := by simpa using e1
    exact ⟨_, ca.toList, us', b, E', fz', rfl, by simpa using e3, rfl, by simpa using e2, by rw [show ca.toList.length = pcs.length by simpa using e3]; exact e4, h4⟩
end Go.PV
