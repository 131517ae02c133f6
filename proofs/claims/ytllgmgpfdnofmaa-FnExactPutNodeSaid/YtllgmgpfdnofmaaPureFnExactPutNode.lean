/- The law FnExactPutNode in plain words: what the printed functions answer, and that the two agree. Its conditions: the bounds that memory sets. -/
import Derived.Test.YtllgmgpfdnofmaaPFnExactPutNodex10
import Derived.Test.YtllgmgpfdnofmaaKit
import Derived.Test.YtllgmgpfdnofmaaKitB
namespace Go.Proofs.Ytllgmgpfdnofmaa.Pure
open Go.RowKit Go.Proofs.Ytllgmgpfdnofmaa.PFnExactPutNode Go.Proofs.YtllgmgpfdnofmaaW.PrintWords Go.Proofs.YtllgmgpfdnofmaaW.PrintLast Go.Proofs.YtllgmgpfdnofmaaW.PrintMore Go.Proofs.Ytllgmgpfdnofmaa.Kit Go.Proofs.Ytllgmgpfdnofmaa.KitB

theorem laws_szStringS_ev (l : List ByteArray) (left : Int) (h0 : 0 ≤ left) (h1 : left ≤ 1048576) (hs : l.length ≤ 140737488351232) (he : ∀ x ∈ l, x.size ≤ 140737488351232) :
    Ev (fun k => laws_szStringS.f k l left) (szL left (l.length :: l.map ByteArray.size)) := by
  unfold laws_szStringS.f
  rw [wrap_id (by omega) (by omega)]
  simp only [szL]
  refine ev_ite (fun h => by rw [if_pos h]; exact ev_some rfl) (fun h => ?_)
  rw [if_neg h]
  refine ev_listI0 (fun k s i => laws_szStringS.l0 k l s i) l (fun s _ => 0 ≤ s ∧ s ≤ 1048576) (fun s _ r => szL s (r.map ByteArray.size)) (left - l.length) (by omega) ?_ ?_
  · intro s hI
    refine Ev.step (fun k => by rw [laws_szStringS.l0]) ?_
    exact ev_neg (by omega) (ev_some rfl)
  · intro s i x r hI hi hx hd ih
    refine Ev.step (fun k => by rw [laws_szStringS.l0]) ?_
    refine ev_pos (by omega) (ev_pos (by omega) ?_)
    have hm := he x (List.mem_of_getElem? hx)
    rw [wrap_succ (by omega), show rdOf ByteArray.empty l (i : Int) = x from getD_at hx, wrap_id (by omega) (by omega)]
    simp only [szL, List.map_cons]
    by_cases c : s - x.size < 0
    · simp only [if_pos c]; exact ev_some rfl
    · simp only [if_neg c]; exact ih _ (by omega)

theorem laws_szIntS_eq (l : List Int) (left : Int) (h0 : 0 ≤ left) (h1 : left ≤ 1048576) (hs : l.length ≤ 140737488351232) : laws_szIntS.f l left = some (szL left [l.length]) := by
  unfold laws_szIntS.f
  simp only [szL]
  rw [wrap_id (by omega) (by omega)]
  split <;> rfl

def nodeAll (ks vs : List ByteArray) (ids : List Int) : Nat := (ks.length + (ks.map ByteArray.size).sum) + (vs.length + (vs.map ByteArray.size).sum) + ids.length
theorem laws_szNode_ev (b : Bool) (ks vs : List ByteArray) (ids : List Int) (left : Int) (h0 : 0 ≤ left) (h1 : left ≤ 1048576)
    (hk : ks.length * 16 ≤ 140737488351232 ∧ ∀ x ∈ ks, x.size ≤ 140737488351232) (hv : vs.length * 16 ≤ 140737488351232 ∧ ∀ x ∈ vs, x.size ≤ 140737488351232) (hi : ids.length * 8 ≤ 140737488351232) :
    Ev (fun k => laws_szNode.f k b ks vs ids left) (szC left (nodeAll ks vs ids)) := by
  unfold laws_szNode.f
  have e1 := laws_szStringS_ev ks left h0 h1 (by omega) hk.2
  rw [szL_sum _ _ h0, List.sum_cons] at e1
  refine Ev.bind e1 ?_
  have b1 := szC_bd (n := ks.length + (ks.map ByteArray.size).sum) h0
  refine ev_ite (fun c => ev_some ?_) (fun c => ?_)
  · have := szC_bd (n := nodeAll ks vs ids) h0
    unfold szC at c ⊢
    split at c
    · omega
    · rw [if_neg (by unfold nodeAll; omega)]
  · obtain ⟨c1, c2⟩ := szC_of c
    have e2 := laws_szStringS_ev vs (szC left (ks.length + (ks.map ByteArray.size).sum)) (by omega) (by omega) (by omega) hv.2
    rw [szL_sum _ _ (by omega), List.sum_cons] at e2
    refine Ev.bind e2 ?_
    refine ev_ite (fun d => ev_some ?_) (fun d => ?_)
    · rw [c2] at d
      unfold szC at d ⊢
      split at d
      · omega
      · rw [if_neg (by unfold nodeAll; omega)]
    · obtain ⟨d1, d2⟩ := szC_of d
      refine Ev.bind (ev_c (laws_szIntS_eq ids _ (by omega) (by omega) (by omega))) ?_
      rw [szL_sum _ _ (by omega)]
      have e : szC (szC (szC left (ks.length + (ks.map ByteArray.size).sum)) (vs.length + (vs.map ByteArray.size).sum)) [ids.length].sum = szC left (nodeAll ks vs ids) := by
        rw [d2, c2, show [ids.length].sum = ids.length from by simp]
        unfold szC nodeAll
        by_cases f : (ids.length : Int) ≤ left - ((ks.length + (ks.map ByteArray.size).sum : Nat) : Int) - ((vs.length + (vs.map ByteArray.size).sum : Nat) : Int)
        · rw [if_pos f, if_pos (by omega)]; omega
        · rw [if_neg f, if_neg (by omega)]
      rw [e]
      refine ev_ite (fun f => ev_some ?_) (fun f => ev_some rfl)
      have := szC_bd (n := nodeAll ks vs ids) h0
      omega

theorem spec_PutU_loop (s : List Int) (n : Int) (hs : s.length < 140737488355317) (h0 : 0 ≤ n) (h1 : n ≤ 1000000) : Ev (fun k => spec_PutU.l0 k n s) (s ++ groups n) := by
  refine ev_groups (fun k s n => spec_PutU.l0 k n s) ?_ ?_ s n hs h0 h1
  · intro s n r hs h0 h1 ih
    refine Ev.step (fun k => by rw [spec_PutU.l0]) ?_
    refine ev_pos h0 (ev_pos (by omega) ?_)
    rw [and127 n (by omega) (by omega), or128 _ (by omega) (by omega), show (n % 128 + 128) % 256 = n % 128 + 128 by omega]
    exact ih
  · intro s n hs h0 h1
    refine Ev.step (fun k => by rw [spec_PutU.l0]) ?_
    refine ev_neg (by omega) (ev_pos (by omega) (ev_some ?_))
    rw [show n % 256 = n by omega]
theorem spec_PutU_ev (l : List Int) (n : Int) (hs : l.length < 140737488355317) : Ev (fun k => spec_PutU.f k l n) (l ++ uM n) := by
  have hb := clampU_bd n
  unfold spec_PutU.f
  refine Ev.bind (ev_c rfl) (ev_pos (by simp; omega) (Ev.bind (ev_c rfl) ?_))
  simp only [List.nil_append]
  unfold uM
  refine ev_ite (fun h => ?_) (fun h => ?_)
  · have e : clampU n = 1000000 := by unfold clampU; rw [if_neg (by omega), if_pos h]
    rw [e]
    refine Ev.step (fun k => by rw [spec_PutU.j0]) (ev_neg (by omega) (Ev.step (fun k => by rw [spec_PutU.j1]) ?_))
    exact spec_PutU_loop _ _ hs (by omega) (by omega)
  · refine Ev.step (fun k => by rw [spec_PutU.j0]) (ev_ite (fun h2 => ?_) (fun h2 => ?_))
    · have e : clampU n = 0 := by unfold clampU; rw [if_pos h2]
      rw [e]
      exact Ev.step (fun k => by rw [spec_PutU.j1]) (spec_PutU_loop _ _ hs (by omega) (by omega))
    · have e : clampU n = n := by unfold clampU; rw [if_neg h2, if_neg h]
      rw [e]
      exact Ev.step (fun k => by rw [spec_PutU.j1]) (spec_PutU_loop _ _ hs (by omega) (by omega))

theorem spec_PutText_ev (l : List Int) (s : ByteArray) (hs : l.length + s.size < 140737488355310) : Ev (fun k => spec_PutText.f k l s) (l ++ uM s.size ++ bytesOf s) := by
  have hb := uM_len s.size
  unfold spec_PutText.f
  refine Ev.bind (spec_PutU_ev l _ (by omega)) (ev_pos (by simp only [List.length_append]; omega) (ev_some rfl))

theorem spec_l14Put_ev (b : Bool) (ks vs : List ByteArray) (ids : List Int) (hk : ks.length + (ks.map ByteArray.size).sum ≤ 1048576) (hv : vs.length + (vs.map ByteArray.size).sum ≤ 1048576) (hi : ids.length ≤ 1048576) :
    Ev (fun k => spec_l14Put.f k b ks vs ids) (nodeB b ks vs ids) := by
  have s1 := sum_le3 ks txtM ByteArray.size txtM_len
  have s2 := sum_le3 vs txtM ByteArray.size txtM_len
  have s3 := sum_uM ids
  have txt : ∀ (s : List Int) (x : ByteArray), s.length + (txtM x).length ≤ 1000000000 → Ev (fun k => spec_PutText.f k s x) (s ++ txtM x) := by
    intro s x h
    have e : (txtM x).length = (uM x.size).length + x.size := by unfold txtM; rw [List.length_append, bytesOf_length]
    unfold txtM
    rw [← List.append_assoc]
    exact spec_PutText_ev s x (by omega)
  have kids : ∀ s, b = false → s.length + (ids.map fun x => (uM x).length).sum ≤ 1000000000 → Ev (fun k => spec_l14Put.l2 k s 0 b ks vs ids) (s ++ ids.flatMap uM) := by
    intro s hb hs
    subst hb
    refine ev_flat (fun k s i => spec_l14Put.l2 k s i false ks vs ids) ids uM (fun s => s) 1000000000 ?_ ?_ s hs
    · intro s _
      refine Ev.step (fun k => by rw [spec_l14Put.l2]) (ev_neg (by omega) (ev_some rfl))
    · intro s i x r hB hi' hx ih
      refine Ev.step (fun k => by rw [spec_l14Put.l2]) (ev_pos (by omega) (ev_neg (by simp) (ev_pos (by omega) ?_)))
      rw [show rd ids (i : Int) = x from getD_at hx, wrap_succ (by omega)]
      exact Ev.bind (spec_PutU_ev s x (by omega)) ih
  have j3 : ∀ s, s.length + (ids.map fun x => (uM x).length).sum ≤ 1000000000 → Ev (fun k => spec_l14Put.j3 k s b ks vs ids) (if b = true then s else s ++ ids.flatMap uM) := by
    intro s hs
    refine Ev.step (fun k => by rw [spec_l14Put.j3]) ?_
    cases b with
    | false => exact kids s rfl hs
    | true =>
      refine Ev.step (fun k => by rw [spec_l14Put.l2]) ?_
      refine ev_ite (fun _ => ?_) (fun _ => ?_)
      · exact ev_pos rfl (ev_some rfl)
      · exact ev_some rfl
  have vals : ∀ s, s.length + (vs.map fun x => (txtM x).length).sum + (ids.map fun x => (uM x).length).sum ≤ 1000000000 → Ev (fun k => spec_l14Put.l1 k s 0 b ks vs ids) (if b = true then s ++ vs.flatMap txtM else s ++ ids.flatMap uM) := by
    intro s hs
    cases b with
    | false =>
      refine Ev.step (fun k => by rw [spec_l14Put.l1]) ?_
      refine ev_ite (fun _ => ?_) (fun _ => ?_)
      · exact ev_neg (by simp) (j3 s (by omega))
      · exact j3 s (by omega)
    | true =>
      refine ev_flat (fun k s i => spec_l14Put.l1 k s i true ks vs ids) vs txtM (fun s => s) (1000000000 - (ids.map fun x => (uM x).length).sum) ?_ ?_ s (by omega)
      · intro s hs2
        refine Ev.step (fun k => by rw [spec_l14Put.l1]) (ev_neg (by omega) (j3 s (by omega)))
      · intro s i x r hB hi' hx ih
        refine Ev.step (fun k => by rw [spec_l14Put.l1]) (ev_pos (by omega) (ev_pos rfl (ev_pos (by omega) ?_)))
        rw [show rdOf ByteArray.empty vs (i : Int) = x from getD_at hx, wrap_succ (by omega)]
        exact Ev.bind (txt s x (by omega)) ih
  have keys : ∀ s, s.length + (ks.map fun x => (txtM x).length).sum + (vs.map fun x => (txtM x).length).sum + (ids.map fun x => (uM x).length).sum ≤ 1000000000 → Ev (fun k => spec_l14Put.l0 k s 0 b ks vs ids) (if b = true then (s ++ ks.flatMap txtM) ++ vs.flatMap txtM else (s ++ ks.flatMap txtM) ++ ids.flatMap uM) := by
    intro s hs
    refine ev_flat (fun k s i => spec_l14Put.l0 k s i b ks vs ids) ks txtM (fun s => if b = true then s ++ vs.flatMap txtM else s ++ ids.flatMap uM) (1000000000 - (vs.map fun x => (txtM x).length).sum - (ids.map fun x => (uM x).length).sum) ?_ ?_ s (by omega)
    · intro s hs2
      refine Ev.step (fun k => by rw [spec_l14Put.l0]) (ev_neg (by omega) (vals s (by omega)))
    · intro s i x r hB hi' hx ih
      refine Ev.step (fun k => by rw [spec_l14Put.l0]) (ev_pos (by omega) (ev_pos (by omega) ?_))
      rw [show rdOf ByteArray.empty ks (i : Int) = x from getD_at hx, wrap_succ (by omega)]
      exact Ev.bind (txt s x (by omega)) ih
  have head : ∀ n : Int, Ev (fun k => spec_l14Put.j0 k n b ks vs ids) (if b = true then (uM n ++ uM ks.length ++ ks.flatMap txtM) ++ vs.flatMap txtM else (uM n ++ uM ks.length ++ ks.flatMap txtM) ++ ids.flatMap uM) := by
    intro n
    have h1 := uM_len n
    have h2 := uM_len ks.length
    refine Ev.step (fun k => by rw [spec_l14Put.j0]) ?_
    refine Ev.bind (spec_PutU_ev [] n (by simp)) ?_
    rw [List.nil_append]
    exact Ev.bind (spec_PutU_ev _ _ (by omega)) (keys _ (by rw [List.length_append]; omega))
  unfold spec_l14Put.f nodeB
  refine ev_ite (fun h => ?_) (fun h => ?_)
  · have z := head 1
    simp only [if_pos h] at z ⊢
    exact z
  · have z := head 0
    simp only [if_neg h] at z ⊢
    exact z

theorem spec_SizeOf_ev (b : Bool) (ks vs : List ByteArray) (ids : List Int) (hk : ks.length + (ks.map ByteArray.size).sum ≤ 1048576) (hv : vs.length + (vs.map ByteArray.size).sum ≤ 1048576) (hi : ids.length ≤ 1048576) :
    Ev (fun k => spec_SizeOf.f k b ks vs ids) ((nodeB b ks vs ids).length : Int) := by
  unfold spec_SizeOf.f
  exact Ev.bind (spec_l14Put_ev b ks vs ids hk hv hi) (ev_some rfl)

theorem spec_l14Rising_ev (ks : List ByteArray) (hk : ks.length ≤ 1048576) : Ev (fun k => spec_l14Rising.f k ks) (risingM none ks) := by
  have h := ev_listI0 (fun k (_ : Unit) i => spec_l14Rising.l0 k ks i) ks (fun _ _ => True) (fun _ i r => risingM (if i = 0 then none else ks[i - 1]?) r) () trivial ?_ ?_
  · exact h
  · intro s hI
    refine Ev.step (fun k => by rw [spec_l14Rising.l0]) ?_
    exact ev_neg (by omega) (ev_some rfl)
  · intro s i x r hI hi hx hd ih
    have ih := ih () trivial
    rw [if_neg (by omega), show i + 1 - 1 = i by omega, hx] at ih
    refine Ev.step (fun k => by rw [spec_l14Rising.l0]) ?_
    refine ev_pos (by omega) (ev_pos (by omega) ?_)
    rw [wrap_succ (by omega), show rdOf ByteArray.empty ks (i : Int) = x from getD_at hx]
    unfold risingM
    refine ev_ite (fun c => by rw [if_pos c]; exact ev_some rfl) (fun c => ?_)
    rw [if_neg c]
    by_cases h0 : i = 0
    · subst h0
      exact ev_neg (by omega) ih
    · obtain ⟨y, hy⟩ : ∃ y, ks[i - 1]? = some y := ⟨_, List.getElem?_eq_getElem (by omega)⟩
      rw [if_neg h0, hy]
      have e : wrap64 ((i : Int) - 1) = ((i - 1 : Nat) : Int) := by rw [wrap_id (by omega) (by omega)]; omega
      refine ev_pos (by omega) ?_
      rw [e]
      refine ev_pos (by omega) (ev_pos (by omega) ?_)
      rw [show rdOf ByteArray.empty ks ((i - 1 : Nat) : Int) = y from getD_at hy]
      exact ev_ite (fun c => by simp only [if_pos c]; exact ih) (fun c => by simp only [if_neg c]; exact ev_some rfl)

theorem spec_l1In_eq (a b c : Int) : spec_l1In.f a b c = some (inB a b c) := by unfold spec_l1In.f inB; split <;> rfl

theorem spec_NodeOk_ev (b : Bool) (ks vs : List ByteArray) (ids : List Int) (hk : ks.length + (ks.map ByteArray.size).sum ≤ 1048576) (hv : vs.length + (vs.map ByteArray.size).sum ≤ 1048576) (hi : ids.length ≤ 1048576) :
    Ev (fun k => spec_NodeOk.f k b ks vs ids) (nodeOkM b ks vs ids) := by
  have l0 : Ev (fun k => spec_NodeOk.l0 k 0 b ks vs ids) (vs.all (fun v => decide ((v.size : Int) ≤ 60)) && decide (1 ≤ ks.length) && decide (vs.length = ks.length) && decide (ids.length = 0)) := by
    have h := ev_all (fun k i => spec_NodeOk.l0 k i b ks vs ids) vs (fun v => decide ((v.size : Int) ≤ 60)) (decide (1 ≤ ks.length) && decide (vs.length = ks.length) && decide (ids.length = 0)) ?_ ?_
    · refine ev_eq h ?_
      by_cases c : vs.all (fun v => decide ((v.size : Int) ≤ 60)) = true
      · rw [if_pos c, c, Bool.true_and]
      · rw [if_neg c, Bool.eq_false_iff.2 c, Bool.false_and, Bool.false_and, Bool.false_and]
    · refine Ev.step (fun k => by rw [spec_NodeOk.l0]) (ev_neg (by omega) ?_)
      refine ev_ite (fun c => ?_) (fun c => ev_some (by rw [decide_eq_false (show ¬ 1 ≤ ks.length by omega)]; simp))
      rw [decide_eq_true (show 1 ≤ ks.length by omega), Bool.true_and]
      refine ev_ite (fun c => ev_some ?_) (fun c => ev_some (by rw [decide_eq_false (show ¬ vs.length = ks.length by omega)]; simp))
      rw [decide_eq_true (show vs.length = ks.length by omega), Bool.true_and, Bool.eq_iff_iff]
      simp
    · intro i x r hi' hx ih
      refine Ev.step (fun k => by rw [spec_NodeOk.l0]) (ev_pos (by omega) (ev_pos (by omega) ?_))
      rw [show rdOf ByteArray.empty vs (i : Int) = x from getD_at hx, wrap_succ (by omega)]
      refine ev_ite (fun c => ?_) (fun c => ?_)
      · rw [if_neg (by simp only [decide_eq_true_eq]; omega)]; exact ev_some rfl
      · rw [if_pos (by simp only [decide_eq_true_eq]; omega)]; exact ih
  have l1 : Ev (fun k => spec_NodeOk.l1 k 0 b ks vs ids) (ids.all (fun n => inB n 2 47) && decide (1 ≤ ids.length) && decide (ks.length + 1 = ids.length) && decide (vs.length = 0)) := by
    have h := ev_all (fun k i => spec_NodeOk.l1 k i b ks vs ids) ids (fun n => inB n 2 47) (decide (1 ≤ ids.length) && decide (ks.length + 1 = ids.length) && decide (vs.length = 0)) ?_ ?_
    · refine ev_eq h ?_
      by_cases c : ids.all (fun n => inB n 2 47) = true
      · rw [if_pos c, c, Bool.true_and]
      · rw [if_neg c, Bool.eq_false_iff.2 c, Bool.false_and, Bool.false_and, Bool.false_and]
    · refine Ev.step (fun k => by rw [spec_NodeOk.l1]) (ev_neg (by omega) ?_)
      refine ev_ite (fun c => ?_) (fun c => ev_some (by rw [decide_eq_false (show ¬ 1 ≤ ids.length by omega)]; simp))
      rw [decide_eq_true (show 1 ≤ ids.length by omega), Bool.true_and, wrap_id (by omega) (by omega)]
      refine ev_ite (fun c => ev_some ?_) (fun c => ev_some (by rw [decide_eq_false (show ¬ ks.length + 1 = ids.length by omega)]; simp))
      rw [decide_eq_true (show ks.length + 1 = ids.length by omega), Bool.true_and, Bool.eq_iff_iff]
      simp
    · intro i x r hi' hx ih
      refine Ev.step (fun k => by rw [spec_NodeOk.l1]) (ev_pos (by omega) (ev_pos (by omega) ?_))
      rw [show rd ids (i : Int) = x from getD_at hx, wrap_succ (by omega)]
      refine Ev.bind (ev_c (spec_l1In_eq _ _ _)) (ev_ite (fun c => ?_) (fun c => ?_))
      · rw [if_pos c]; exact ih
      · rw [if_neg c]; exact ev_some rfl
  have j0 : ∀ q : Bool, Ev (fun k => spec_NodeOk.j0 k q b ks vs ids) (if q = true then false else if b = true then (vs.all (fun v => decide ((v.size : Int) ≤ 60)) && decide (1 ≤ ks.length) && decide (vs.length = ks.length) && decide (ids.length = 0)) else (ids.all (fun n => inB n 2 47) && decide (1 ≤ ids.length) && decide (ks.length + 1 = ids.length) && decide (vs.length = 0))) := by
    intro q
    refine Ev.step (fun k => by rw [spec_NodeOk.j0]) (ev_ite (fun c => ?_) (fun c => ?_))
    · rw [if_pos c]; exact ev_some rfl
    · rw [if_neg c]
      exact ev_ite (fun h => by rw [if_pos h]; exact l0) (fun h => by rw [if_neg h]; exact l1)
  unfold spec_NodeOk.f nodeOkM
  refine Ev.bind (spec_l14Rising_ev ks (by omega)) ?_
  refine ev_ite (fun c => ?_) (fun c => ?_)
  · rw [c, Bool.true_and]
    refine Ev.bind (spec_SizeOf_ev b ks vs ids hk hv hi) (ev_eq (j0 _) ?_)
    by_cases d : ((nodeB b ks vs ids).length : Int) ≤ 240
    · rw [if_neg (by simp only [decide_eq_true_eq]; omega), decide_eq_true d, Bool.true_and]
    · rw [if_pos (by simp only [decide_eq_true_eq]; omega), decide_eq_false d, Bool.false_and]
  · rw [Bool.eq_false_iff.2 c, Bool.false_and, Bool.false_and]
    exact ev_eq (j0 true) (by simp)

/-- The bytes of a node that is right; nothing of another. -/
def putNM (b : Bool) (ks vs : List ByteArray) (ids : List Int) : List Int := if nodeOkM b ks vs ids = true then nodeB b ks vs ids else []

theorem spec_PutNode_ev (b : Bool) (ks vs : List ByteArray) (ids : List Int) (hk : ks.length + (ks.map ByteArray.size).sum ≤ 1048576) (hv : vs.length + (vs.map ByteArray.size).sum ≤ 1048576) (hi : ids.length ≤ 1048576) :
    Ev (fun k => spec_PutNode.f k b ks vs ids) (putNM b ks vs ids) := by
  unfold spec_PutNode.f putNM
  exact Ev.bind (spec_NodeOk_ev b ks vs ids hk hv hi) (ev_ite (fun h => by rw [if_pos h]; exact Ev.bind (spec_l14Put_ev b ks vs ids hk hv hi) (ev_some rfl)) (fun h => by rw [if_neg h]; exact ev_some rfl))

theorem laws_toStringS_ev (l : List ByteArray) (hs : l.length ≤ 1048576) : Ev (fun k => laws_toStringS.f k l) l := by
  unfold laws_toStringS.f
  refine ev_pos (by omega) (ev_pos (by omega) ?_)
  refine ev_eq (ev_fill (fun k s i => laws_toStringS.l0 k l s i) l id ?_ ?_ _ (by simp)) (List.map_id l)
  · intro s hI
    refine Ev.step (fun k => by rw [laws_toStringS.l0]) ?_
    exact ev_neg (by omega) (ev_some rfl)
  · intro s i x r hI hi hx ih
    refine Ev.step (fun k => by rw [laws_toStringS.l0]) ?_
    refine ev_pos (by omega) (ev_pos (by omega) (ev_pos (by omega) ?_))
    rw [wrap_succ (by omega), show rdOf ByteArray.empty l (i : Int) = x from getD_at hx]
    exact ih

theorem laws_toIntS_ev (l : List Int) (hs : l.length ≤ 1048576) : Ev (fun k => laws_toIntS.f k l) l := by
  unfold laws_toIntS.f
  refine ev_pos (by omega) (ev_pos (by omega) ?_)
  refine ev_eq (ev_fill (fun k s i => laws_toIntS.l0 k l s i) l id ?_ ?_ _ (by simp)) (List.map_id l)
  · intro s hI
    refine Ev.step (fun k => by rw [laws_toIntS.l0]) ?_
    exact ev_neg (by omega) (ev_some rfl)
  · intro s i x r hI hi hx ih
    refine Ev.step (fun k => by rw [laws_toIntS.l0]) ?_
    refine ev_pos (by omega) (ev_pos (by omega) (ev_pos (by omega) ?_))
    rw [wrap_succ (by omega), show rd l (i : Int) = x from getD_at hx]
    exact ih

theorem laws_toNode_ev (b : Bool) (ks vs : List ByteArray) (ids : List Int) (hk : ks.length ≤ 1048576) (hv : vs.length ≤ 1048576) (hi : ids.length ≤ 1048576) : Ev (fun k => laws_toNode.f k b ks vs ids) (b, ks, vs, ids) := by
  unfold laws_toNode.f
  exact Ev.bind (laws_toStringS_ev ks hk) (Ev.bind (laws_toStringS_ev vs hv) (Ev.bind (laws_toIntS_ev ids hi) (ev_some rfl)))

theorem impl_addU_loop (s : List Int) (n : Int) (hs : s.length < 140737488355317) (h0 : 0 ≤ n) (h1 : n ≤ 1000000) : Ev (fun k => impl_addU.l0 k s n) (s ++ groups n) := by
  refine ev_groups (fun k s n => impl_addU.l0 k s n) ?_ ?_ s n hs h0 h1
  · intro s n r hs h0 h1 ih
    refine Ev.step (fun k => by rw [impl_addU.l0]) ?_
    refine ev_pos h0 (ev_pos (by omega) ?_)
    rw [Int.tmod_eq_emod_of_nonneg (by omega), Int.tdiv_eq_ediv_of_nonneg (by omega), wrap_id (by omega) (by omega), wrap_id (by omega) (by omega), show (n % 128 + 128) % 256 = n % 128 + 128 by omega]
    exact ih
  · intro s n hs h0 h1
    refine Ev.step (fun k => by rw [impl_addU.l0]) ?_
    refine ev_neg (by omega) (ev_pos (by omega) (ev_some ?_))
    rw [show n % 256 = n by omega]
theorem impl_addU_ev (l : List Int) (n : Int) (hs : l.length < 140737488355317) : Ev (fun k => impl_addU.f k l n) (l ++ uM n) := by
  have hb := clampU_bd n
  unfold impl_addU.f impl_clamp.f
  refine Ev.bind (ev_c rfl) ?_
  rw [clampU_mx]
  exact impl_addU_loop _ _ hs hb.1 hb.2

theorem impl_addText_ev (l : List Int) (s : ByteArray) (hs : l.length + s.size < 140737488355310) : Ev (fun k => impl_addText.f k l s) (l ++ uM s.size ++ bytesOf s) := by
  have hb := uM_len s.size
  unfold impl_addText.f
  refine Ev.bind (impl_addU_ev l _ (by omega)) (ev_pos (by simp only [List.length_append]; omega) (ev_some rfl))

theorem impl_bodyOf_ev (b : Bool) (ks vs : List ByteArray) (ids : List Int) (hk : ks.length + (ks.map ByteArray.size).sum ≤ 1048576) (hv : vs.length + (vs.map ByteArray.size).sum ≤ 1048576) (hi : ids.length ≤ 1048576) :
    Ev (fun k => impl_bodyOf.f k b ks vs ids) (nodeB b ks vs ids) := by
  have s1 := sum_le3 ks txtM ByteArray.size txtM_len
  have s2 := sum_le3 vs txtM ByteArray.size txtM_len
  have s3 := sum_uM ids
  have txt : ∀ (s : List Int) (x : ByteArray), s.length + (txtM x).length ≤ 1000000000 → Ev (fun k => impl_addText.f k s x) (s ++ txtM x) := by
    intro s x h
    have e : (txtM x).length = (uM x.size).length + x.size := by unfold txtM; rw [List.length_append, bytesOf_length]
    unfold txtM
    rw [← List.append_assoc]
    exact impl_addText_ev s x (by omega)
  have kids : ∀ s, s.length + (ids.map fun x => (uM x).length).sum ≤ 1000000000 → Ev (fun k => impl_bodyOf.l2 k s ids (ids.length : Int) 0) (s ++ ids.flatMap uM) := by
    intro s hs
    refine ev_flat (fun k s i => impl_bodyOf.l2 k s ids (ids.length : Int) i) ids uM (fun s => s) 1000000000 ?_ ?_ s hs
    · intro s _
      refine Ev.step (fun k => by rw [impl_bodyOf.l2]) (ev_neg (by omega) (ev_some rfl))
    · intro s i x r hB hi' hx ih
      refine Ev.step (fun k => by rw [impl_bodyOf.l2]) (ev_pos (by omega) (ev_pos (by omega) (ev_pos (by omega) ?_)))
      rw [show rd ids (i : Int) = x from getD_at hx, wrap_succ (by omega)]
      exact Ev.bind (impl_addU_ev s x (by omega)) ih
  have vals : ∀ s, s.length + (vs.map fun x => (txtM x).length).sum ≤ 1000000000 → Ev (fun k => impl_bodyOf.l1 k s vs (vs.length : Int) 0) (s ++ vs.flatMap txtM) := by
    intro s hs
    refine ev_flat (fun k s i => impl_bodyOf.l1 k s vs (vs.length : Int) i) vs txtM (fun s => s) 1000000000 ?_ ?_ s hs
    · intro s _
      refine Ev.step (fun k => by rw [impl_bodyOf.l1]) (ev_neg (by omega) (ev_some rfl))
    · intro s i x r hB hi' hx ih
      refine Ev.step (fun k => by rw [impl_bodyOf.l1]) (ev_pos (by omega) (ev_pos (by omega) (ev_pos (by omega) ?_)))
      rw [show rdOf ByteArray.empty vs (i : Int) = x from getD_at hx, wrap_succ (by omega)]
      exact Ev.bind (txt s x (by omega)) ih
  have keys : ∀ s, s.length + (ks.map fun x => (txtM x).length).sum + (vs.map fun x => (txtM x).length).sum + (ids.map fun x => (uM x).length).sum ≤ 1000000000 → Ev (fun k => impl_bodyOf.l0 k s ks (ks.length : Int) 0 b ks vs ids) (if b = true then (s ++ ks.flatMap txtM) ++ vs.flatMap txtM else (s ++ ks.flatMap txtM) ++ ids.flatMap uM) := by
    intro s hs
    refine ev_flat (fun k s i => impl_bodyOf.l0 k s ks (ks.length : Int) i b ks vs ids) ks txtM (fun s => if b = true then s ++ vs.flatMap txtM else s ++ ids.flatMap uM) (1000000000 - (vs.map fun x => (txtM x).length).sum - (ids.map fun x => (uM x).length).sum) ?_ ?_ s (by omega)
    · intro s hs2
      refine Ev.step (fun k => by rw [impl_bodyOf.l0]) (ev_neg (by omega) (ev_ite (fun h => ?_) (fun h => ?_)))
      · rw [if_pos h]; exact vals s (by omega)
      · rw [if_neg h]; exact kids s (by omega)
    · intro s i x r hB hi' hx ih
      refine Ev.step (fun k => by rw [impl_bodyOf.l0]) (ev_pos (by omega) (ev_pos (by omega) (ev_pos (by omega) ?_)))
      rw [show rdOf ByteArray.empty ks (i : Int) = x from getD_at hx, wrap_succ (by omega)]
      exact Ev.bind (txt s x (by omega)) ih
  have head : ∀ s, s.length ≤ 3 → Ev (fun k => impl_bodyOf.j0 k s b ks vs ids) (if b = true then (s ++ uM ks.length ++ ks.flatMap txtM) ++ vs.flatMap txtM else (s ++ uM ks.length ++ ks.flatMap txtM) ++ ids.flatMap uM) := by
    intro s hs
    have h2 := uM_len ks.length
    refine Ev.step (fun k => by rw [impl_bodyOf.j0]) ?_
    exact Ev.bind (impl_addU_ev _ _ (by omega)) (keys _ (by rw [List.length_append]; omega))
  unfold impl_bodyOf.f nodeB
  refine ev_ite (fun h => ?_) (fun h => ?_)
  · have z := head ([] ++ [1]) (by simp)
    simp only [if_pos h] at z ⊢
    exact ev_pos (by simp) z
  · have z := head ([] ++ [0]) (by simp)
    simp only [if_neg h] at z ⊢
    exact ev_pos (by simp) z

theorem impl_SizeOf_ev (b : Bool) (ks vs : List ByteArray) (ids : List Int) (hk : ks.length + (ks.map ByteArray.size).sum ≤ 1048576) (hv : vs.length + (vs.map ByteArray.size).sum ≤ 1048576) (hi : ids.length ≤ 1048576) :
    Ev (fun k => impl_SizeOf.f k b ks vs ids) ((nodeB b ks vs ids).length : Int) := by
  unfold impl_SizeOf.f
  exact Ev.bind (impl_bodyOf_ev b ks vs ids hk hv hi) (ev_some rfl)

theorem impl_in_eq (a b c : Int) : impl_in.f a b c = some (inB a b c) := by unfold impl_in.f inB; split <;> rfl

theorem impl_isSector_eq (n : Int) : impl_isSector.f n = some (inB n 2 47) := by unfold impl_isSector.f; rw [impl_in_eq]; rfl
theorem impl_NodeOk_ev (b : Bool) (ks vs : List ByteArray) (ids : List Int) (hk : ks.length + (ks.map ByteArray.size).sum ≤ 1048576) (hv : vs.length + (vs.map ByteArray.size).sum ≤ 1048576) (hi : ids.length ≤ 1048576) :
    Ev (fun k => impl_NodeOk.f k b ks vs ids) (nodeOkM b ks vs ids) := by
  have sz := impl_SizeOf_ev b ks vs ids hk hv hi
  have l1 : Ev (fun k => impl_NodeOk.l1 k vs (vs.length : Int) 0 b ks vs ids) (decide (((nodeB b ks vs ids).length : Int) ≤ 240) && (vs.all (fun v => decide ((v.size : Int) ≤ 60)) && decide (1 ≤ ks.length) && decide (vs.length = ks.length) && decide (ids.length = 0))) := by
    have h := ev_all (fun k i => impl_NodeOk.l1 k vs (vs.length : Int) i b ks vs ids) vs (fun v => decide ((v.size : Int) ≤ 60)) (decide (((nodeB b ks vs ids).length : Int) ≤ 240) && (decide (1 ≤ ks.length) && decide (vs.length = ks.length) && decide (ids.length = 0))) ?_ ?_
    · refine ev_eq h ?_
      by_cases c : vs.all (fun v => decide ((v.size : Int) ≤ 60)) = true
      · rw [if_pos c, c, Bool.true_and]
      · rw [if_neg c, Bool.eq_false_iff.2 c, Bool.false_and, Bool.false_and, Bool.false_and, Bool.and_false]
    · refine Ev.step (fun k => by rw [impl_NodeOk.l1]) (ev_neg (by omega) ?_)
      refine ev_ite (fun c => ?_) (fun c => ev_some (by rw [decide_eq_false (show ¬ 1 ≤ ks.length by omega)]; simp))
      rw [decide_eq_true (show 1 ≤ ks.length by omega), Bool.true_and]
      refine ev_ite (fun c => ?_) (fun c => ev_some (by rw [decide_eq_false (show ¬ vs.length = ks.length by omega)]; simp))
      rw [decide_eq_true (show vs.length = ks.length by omega), Bool.true_and]
      refine ev_ite (fun c => ?_) (fun c => ev_some (by rw [decide_eq_false (show ¬ ids.length = 0 by omega)]; simp))
      rw [decide_eq_true (show ids.length = 0 by omega), Bool.and_true]
      exact Ev.bind sz (ev_some rfl)
    · intro i x r hi' hx ih
      refine Ev.step (fun k => by rw [impl_NodeOk.l1]) (ev_pos (by omega) (ev_pos (by omega) (ev_pos (by omega) ?_)))
      rw [show rdOf ByteArray.empty vs (i : Int) = x from getD_at hx, wrap_succ (by omega)]
      refine ev_ite (fun c => ?_) (fun c => ?_)
      · rw [if_neg (by simp only [decide_eq_true_eq]; omega)]; exact ev_some rfl
      · rw [if_pos (by simp only [decide_eq_true_eq]; omega)]; exact ih
  have l2 : Ev (fun k => impl_NodeOk.l2 k ids (ids.length : Int) 0 b ks vs ids) (decide (((nodeB b ks vs ids).length : Int) ≤ 240) && (ids.all (fun n => inB n 2 47) && decide (1 ≤ ids.length) && decide (ks.length + 1 = ids.length) && decide (vs.length = 0))) := by
    have h := ev_all (fun k i => impl_NodeOk.l2 k ids (ids.length : Int) i b ks vs ids) ids (fun n => inB n 2 47) (decide (((nodeB b ks vs ids).length : Int) ≤ 240) && (decide (1 ≤ ids.length) && decide (ks.length + 1 = ids.length) && decide (vs.length = 0))) ?_ ?_
    · refine ev_eq h ?_
      by_cases c : ids.all (fun n => inB n 2 47) = true
      · rw [if_pos c, c, Bool.true_and]
      · rw [if_neg c, Bool.eq_false_iff.2 c, Bool.false_and, Bool.false_and, Bool.false_and, Bool.and_false]
    · refine Ev.step (fun k => by rw [impl_NodeOk.l2]) (ev_neg (by omega) ?_)
      refine ev_ite (fun c => ?_) (fun c => ev_some (by rw [decide_eq_false (show ¬ 1 ≤ ids.length by omega)]; simp))
      rw [decide_eq_true (show 1 ≤ ids.length by omega), Bool.true_and, wrap_id (by omega) (by omega)]
      refine ev_ite (fun c => ?_) (fun c => ev_some (by rw [decide_eq_false (show ¬ ks.length + 1 = ids.length by omega)]; simp))
      rw [decide_eq_true (show ks.length + 1 = ids.length by omega), Bool.true_and]
      refine ev_ite (fun c => ?_) (fun c => ev_some (by rw [decide_eq_false (show ¬ vs.length = 0 by omega)]; simp))
      rw [decide_eq_true (show vs.length = 0 by omega), Bool.and_true]
      exact Ev.bind sz (ev_some rfl)
    · intro i x r hi' hx ih
      refine Ev.step (fun k => by rw [impl_NodeOk.l2]) (ev_pos (by omega) (ev_pos (by omega) (ev_pos (by omega) ?_)))
      rw [show rd ids (i : Int) = x from getD_at hx, wrap_succ (by omega)]
      refine Ev.bind (ev_c (impl_isSector_eq _)) (ev_ite (fun c => ?_) (fun c => ?_))
      · rw [if_pos c]; exact ih
      · rw [if_neg c]; exact ev_some rfl
  unfold impl_NodeOk.f
  have h := ev_listI0 (fun k (_ : Unit) i => impl_NodeOk.l0 k ks (ks.length : Int) i b ks vs ids) ks (fun _ _ => True) (fun _ i r => risingM (if i = 0 then none else ks[i - 1]?) r && (decide (((nodeB b ks vs ids).length : Int) ≤ 240) && (if b = true then vs.all (fun v => decide ((v.size : Int) ≤ 60)) && decide (1 ≤ ks.length) && decide (vs.length = ks.length) && decide (ids.length = 0) else ids.all (fun n => inB n 2 47) && decide (1 ≤ ids.length) && decide (ks.length + 1 = ids.length) && decide (vs.length = 0)))) () trivial ?_ ?_
  · unfold nodeOkM
    rw [Bool.and_assoc]
    exact h
  · intro s hI
    refine Ev.step (fun k => by rw [impl_NodeOk.l0]) (ev_neg (by omega) ?_)
    simp only [risingM, Bool.true_and]
    exact ev_ite (fun h => by rw [if_pos h]; exact l1) (fun h => by rw [if_neg h]; exact l2)
  · intro s i x r hI hi' hx hd ih
    have ih := ih () trivial
    rw [if_neg (show ¬ i + 1 = 0 by omega), show i + 1 - 1 = i by omega, hx] at ih
    refine Ev.step (fun k => by rw [impl_NodeOk.l0]) ?_
    refine ev_pos (by omega) (ev_pos (by omega) (ev_pos (by omega) ?_))
    rw [wrap_succ (by omega), show rdOf ByteArray.empty ks (i : Int) = x from getD_at hx]
    unfold risingM
    refine ev_ite (fun c => by rw [if_pos c, Bool.false_and]; exact ev_some rfl) (fun c => ?_)
    rw [if_neg c]
    by_cases h0 : i = 0
    · subst h0
      exact ev_neg (by omega) ih
    · obtain ⟨y, hy⟩ : ∃ y, ks[i - 1]? = some y := ⟨_, List.getElem?_eq_getElem (by omega)⟩
      rw [if_neg h0, hy]
      have e : wrap64 ((i : Int) - 1) = ((i - 1 : Nat) : Int) := by rw [wrap_id (by omega) (by omega)]; omega
      refine ev_pos (by omega) ?_
      rw [e]
      refine ev_pos (by omega) (ev_pos (by omega) ?_)
      rw [show rdOf ByteArray.empty ks ((i - 1 : Nat) : Int) = y from getD_at hy]
      exact ev_ite (fun c => by simp only [if_pos c]; exact ih) (fun c => by simp only [if_neg c, Bool.false_and]; exact ev_some rfl)

theorem impl_PutNode_ev (b : Bool) (ks vs : List ByteArray) (ids : List Int) (hk : ks.length + (ks.map ByteArray.size).sum ≤ 1048576) (hv : vs.length + (vs.map ByteArray.size).sum ≤ 1048576) (hi : ids.length ≤ 1048576) :
    Ev (fun k => impl_PutNode.f k b ks vs ids) (putNM b ks vs ids) := by
  unfold impl_PutNode.f putNM
  exact Ev.bind (impl_NodeOk_ev b ks vs ids hk hv hi) (ev_ite (fun h => by rw [if_pos h]; exact Ev.bind (impl_bodyOf_ev b ks vs ids hk hv hi) (ev_some rfl)) (fun h => by rw [if_neg h]; exact ev_some rfl))

theorem laws_eqByteS_self (l : List Int) (hs : l.length ≤ 281474976710656) : Ev (fun k => laws_eqByteS.f k l l) true := by
  unfold laws_eqByteS.f
  refine ev_pos rfl ?_
  refine ev_pass (fun k i => laws_eqByteS.l0 k l l i) l true ?_ ?_
  · refine Ev.step (fun k => by rw [laws_eqByteS.l0]) ?_
    exact ev_neg (by omega) (ev_some rfl)
  · intro i x hi hx ih
    refine Ev.step (fun k => by rw [laws_eqByteS.l0]) ?_
    refine ev_pos (by omega) (ev_pos (by omega) (ev_pos (by omega) (ev_pos rfl ?_)))
    rw [wrap_succ (by omega)]
    exact ih

theorem laws_eqStringS_self (l : List ByteArray) (hs : l.length ≤ 281474976710656) : Ev (fun k => laws_eqStringS.f k l l) true := by
  unfold laws_eqStringS.f
  refine ev_pos rfl ?_
  refine ev_pass (fun k i => laws_eqStringS.l0 k l l i) l true ?_ ?_
  · refine Ev.step (fun k => by rw [laws_eqStringS.l0]) ?_
    exact ev_neg (by omega) (ev_some rfl)
  · intro i x hi hx ih
    refine Ev.step (fun k => by rw [laws_eqStringS.l0]) ?_
    refine ev_pos (by omega) (ev_pos (by omega) (ev_pos (by omega) (ev_pos rfl ?_)))
    rw [wrap_succ (by omega)]
    exact ih

theorem laws_eqIntS_self (l : List Int) (hs : l.length ≤ 281474976710656) : Ev (fun k => laws_eqIntS.f k l l) true := by
  unfold laws_eqIntS.f
  refine ev_pos rfl ?_
  refine ev_pass (fun k i => laws_eqIntS.l0 k l l i) l true ?_ ?_
  · refine Ev.step (fun k => by rw [laws_eqIntS.l0]) ?_
    exact ev_neg (by omega) (ev_some rfl)
  · intro i x hi hx ih
    refine Ev.step (fun k => by rw [laws_eqIntS.l0]) ?_
    refine ev_pos (by omega) (ev_pos (by omega) (ev_pos (by omega) (ev_pos rfl ?_)))
    rw [wrap_succ (by omega)]
    exact ih

theorem laws_eqNode_self (b : Bool) (ks vs : List ByteArray) (ids : List Int) (hk : ks.length ≤ 281474976710656) (hv : vs.length ≤ 281474976710656) (hi : ids.length ≤ 281474976710656) : Ev (fun k => laws_eqNode.f k b ks vs ids b ks vs ids) true := by
  unfold laws_eqNode.f
  refine ev_neg (by simp) ?_
  refine Ev.bind (laws_eqStringS_self ks hk) (ev_pos rfl ?_)
  refine Ev.bind (laws_eqStringS_self vs hv) (ev_pos rfl ?_)
  exact Ev.bind (laws_eqIntS_self ids hi) (ev_pos rfl (ev_some rfl))

/-- A mark's text: some text, always the same. -/
theorem laws_markText_all : ∀ (d : Nat) (n : Int) (s : ByteArray), n.toNat ≤ d → n ≤ 1000000000000 → s.size + d ≤ 4000000000000 → ∃ r, Ev (fun k => laws_markText.l0 k n s) r := by
  intro d
  induction d with
  | zero =>
    intro n s hn _ hs
    refine ⟨_, Ev.step (fun k => by rw [laws_markText.l0]) (ev_neg (by omega) (ev_pos (by omega) (ev_some rfl)))⟩
  | succ d ih =>
    intro n s hn hn2 hs
    by_cases h : n > 0
    · have e : (strOfNums [wrap64 (48 + Int.tmod n 10) % 256]).size = 1 := strOfNums_size _
      have q : Int.tdiv n 10 = n / 10 := Int.tdiv_eq_ediv_of_nonneg (by omega)
      have qw : wrap64 (n / 10) = n / 10 := wrap_id (by omega) (by omega)
      obtain ⟨r, hr⟩ := ih (n / 10) (strOfNums [wrap64 (48 + Int.tmod n 10) % 256] ++ s) (by omega) (by omega) (by rw [ByteArray.size_append, e]; omega)
      refine ⟨r, ?_⟩
      refine Ev.step (fun k => by rw [laws_markText.l0]) ?_
      refine ev_pos h ?_
      rw [q, qw]
      first
        | exact Ev.bind (ev_c rfl) (ev_pos (by omega) hr)
        | exact ev_pos (by omega) hr
        | (refine Ev.bind (ev_c rfl) ?_; refine ev_pos ?_ hr; omega)
    · exact ⟨_, Ev.step (fun k => by rw [laws_markText.l0]) (ev_neg h (ev_pos (by omega) (ev_some rfl)))⟩
theorem laws_markText_some (n : Int) (h0 : n ≤ 1000000000000) : ∃ r, Ev (fun k => laws_markText.f k n) r := by
  unfold laws_markText.f
  by_cases h : n ≤ 0
  · exact ⟨_, ev_pos h (ev_some rfl)⟩
  · obtain ⟨r, hr⟩ := laws_markText_all n.toNat n (⟨#[]⟩ : ByteArray) (Nat.le_refl _) h0 (by show 0 + _ ≤ _; omega)
    exact ⟨r, ev_neg h hr⟩
open Classical in
noncomputable def markT (n : Int) : ByteArray := if h : n ≤ 1000000000000 then Classical.choose (laws_markText_some n h) else ⟨#[]⟩
theorem laws_markText_ev (n : Int) (h0 : n ≤ 1000000000000) : Ev (fun k => laws_markText.f k n) (markT n) := by
  unfold markT
  rw [dif_pos h0]
  exact Classical.choose_spec (laws_markText_some n h0)

noncomputable def markStr (m : Int) : Nat → List ByteArray
  | 0 => []
  | n + 1 => markT m :: markStr (m + 1) n
theorem markStr_len : ∀ (n : Nat) (m : Int), (markStr m n).length = n
  | 0, _ => rfl
  | n + 1, m => by simp [markStr, markStr_len n]
theorem markStr_at : ∀ (n : Nat) (m : Int) (i : Nat), i < n → (markStr m n)[i]? = some (markT (m + i))
  | 0, _, _, h => by omega
  | n + 1, m, 0, _ => by simp [markStr]
  | n + 1, m, i + 1, h => by
    rw [markStr, List.getElem?_cons_succ, markStr_at n (m + 1) i (by omega)]
    rw [show m + 1 + (i : Int) = m + ((i + 1 : Nat) : Int) by omega]
theorem laws_markStringS_ev (l : List ByteArray) (m : Int) (h0 : 0 ≤ m) (h1 : m ≤ 10000000000) (hs : l.length ≤ 1000000000) : Ev (fun k => laws_markStringS.f k l m) (m + l.length, markStr m l.length) := by
  unfold laws_markStringS.f
  have h := ev_listI0 (fun k (s : List ByteArray × Int) i => laws_markStringS.l0 k s.1 s.2 i) l (fun s i => s.1.length = l.length ∧ s.2 = m + i) (fun s i r => (m + l.length, s.1.take i ++ markStr (m + i) r.length)) (l, m) (by simp) ?_ ?_
  · simpa using h
  · intro s ⟨hl, hm⟩
    refine Ev.step (fun k => by rw [laws_markStringS.l0]) ?_
    refine ev_neg (by omega) (ev_some ?_)
    rw [hm, ← hl, List.take_length]
    simp [markStr]
  · intro s i x r ⟨hl, hm⟩ hi hx hd ih
    refine Ev.step (fun k => by rw [laws_markStringS.l0]) ?_
    refine ev_pos (by omega) (Ev.bind (laws_markText_ev _ (by omega)) (ev_pos (by omega) ?_))
    rw [wrap_succ (by omega), wrap_id (x := s.2 + 1) (by omega) (by omega)]
    simp only [Int.toNat_natCast]
    refine ev_eq (ih (s.1.set i (markT s.2), s.2 + 1) ⟨by simpa using hl, by simp only; omega⟩) ?_
    rw [List.length_cons, markStr]
    congr 1
    rw [List.take_add_one, List.take_set_of_le (Nat.le_refl i), List.getElem?_set_self (by omega), hm]
    simp only [Option.toList_some, List.append_assoc, List.cons_append, List.nil_append]
    rw [show m + ((i + 1 : Nat) : Int) = m + (i : Int) + 1 by omega]

def markI (m : Int) : Nat → List Int
  | 0 => []
  | n + 1 => m :: markI (m + 1) n
theorem markI_len : ∀ (n : Nat) (m : Int), (markI m n).length = n
  | 0, _ => rfl
  | n + 1, m => by simp [markI, markI_len n]
theorem markI_at : ∀ (n : Nat) (m : Int) (i : Nat), i < n → (markI m n)[i]? = some (m + i)
  | 0, _, _, h => by omega
  | n + 1, m, 0, _ => by simp [markI]
  | n + 1, m, i + 1, h => by
    rw [markI, List.getElem?_cons_succ, markI_at n (m + 1) i (by omega)]
    rw [show m + 1 + (i : Int) = m + ((i + 1 : Nat) : Int) by omega]
theorem laws_markIntS_ev (l : List Int) (m : Int) (h0 : 0 ≤ m) (h1 : m ≤ 10000000000) (hs : l.length ≤ 1000000000) : Ev (fun k => laws_markIntS.f k l m) (m + l.length, markI m l.length) := by
  unfold laws_markIntS.f
  have h := ev_listI0 (fun k (s : List Int × Int) i => laws_markIntS.l0 k s.1 s.2 i) l (fun s i => s.1.length = l.length ∧ s.2 = m + i) (fun s i r => (m + l.length, s.1.take i ++ markI (m + i) r.length)) (l, m) (by simp) ?_ ?_
  · simpa using h
  · intro s ⟨hl, hm⟩
    refine Ev.step (fun k => by rw [laws_markIntS.l0]) ?_
    refine ev_neg (by omega) (ev_some ?_)
    rw [hm, ← hl, List.take_length]
    simp [markI]
  · intro s i x r ⟨hl, hm⟩ hi hx hd ih
    refine Ev.step (fun k => by rw [laws_markIntS.l0]) ?_
    refine ev_pos (by omega) (ev_pos (by omega) ?_)
    rw [wrap_succ (by omega), wrap_id (x := s.2 + 1) (by omega) (by omega)]
    simp only [Int.toNat_natCast]
    refine ev_eq (ih (s.1.set i s.2, s.2 + 1) ⟨by simpa using hl, by simp only; omega⟩) ?_
    rw [List.length_cons, markI]
    congr 1
    rw [List.take_add_one, List.take_set_of_le (Nat.le_refl i), List.getElem?_set_self (by omega), hm]
    simp only [Option.toList_some, List.append_assoc, List.cons_append, List.nil_append]
    rw [show m + ((i + 1 : Nat) : Int) = m + (i : Int) + 1 by omega]

theorem laws_markNode_ev (b : Bool) (ks vs : List ByteArray) (ids : List Int) (m : Int) (h0 : 0 ≤ m) (h1 : m ≤ 10) (hk : ks.length ≤ 1048576) (hv : vs.length ≤ 1048576) (hi : ids.length ≤ 1048576) :
    Ev (fun k => laws_markNode.f k b ks vs ids m) (m + ks.length + vs.length + ids.length, markStr m ks.length, markStr (m + ks.length) vs.length, markI (m + ks.length + vs.length) ids.length) := by
  unfold laws_markNode.f
  exact Ev.bind (laws_markStringS_ev ks m h0 (by omega) (by omega)) (Ev.bind (laws_markStringS_ev vs _ (by omega) (by omega) (by omega)) (Ev.bind (laws_markIntS_ev ids _ (by omega) (by omega) (by omega)) (ev_some rfl)))

def markB (m : Int) : Nat → List Int
  | 0 => []
  | n + 1 => (m % 256) :: markB (m + 1) n
theorem markB_len : ∀ (n : Nat) (m : Int), (markB m n).length = n
  | 0, _ => rfl
  | n + 1, m => by simp [markB, markB_len n]
theorem laws_markByteS_ev (l : List Int) (m : Int) (h0 : 0 ≤ m) (h1 : m ≤ 1000000000) (hs : l.length ≤ 1000000000) : Ev (fun k => laws_markByteS.f k l m) (m + l.length, markB m l.length) := by
  unfold laws_markByteS.f
  have h := ev_listI0 (fun k (s : List Int × Int) i => laws_markByteS.l0 k s.1 s.2 i) l (fun s i => s.1.length = l.length ∧ s.2 = m + i) (fun s i r => (m + l.length, s.1.take i ++ markB (m + i) r.length)) (l, m) (by simp) ?_ ?_
  · simpa using h
  · intro s ⟨hl, hm⟩
    refine Ev.step (fun k => by rw [laws_markByteS.l0]) ?_
    refine ev_neg (by omega) (ev_some ?_)
    rw [hm, ← hl, List.take_length]
    simp [markB]
  · intro s i x r ⟨hl, hm⟩ hi hx hd ih
    refine Ev.step (fun k => by rw [laws_markByteS.l0]) ?_
    refine ev_pos (by omega) (ev_pos (by omega) ?_)
    rw [wrap_succ (by omega), wrap_id (by omega) (by omega)]
    refine ev_eq (ih (s.1.set i (s.2 % 256), s.2 + 1) ⟨by simpa using hl, by simp only; omega⟩) ?_
    rw [List.length_cons, markB]
    congr 1
    rw [List.take_add_one, List.take_set_of_le (Nat.le_refl i), List.getElem?_set_self (by omega), hm]
    simp only [Option.toList_some, List.append_assoc, List.cons_append, List.nil_append]
    rw [show m + ((i + 1 : Nat) : Int) = m + (i : Int) + 1 by omega]

theorem markB_at : ∀ (n : Nat) (m : Int) (i : Nat), i < n → (markB m n)[i]? = some ((m + i) % 256)
  | 0, _, _, h => by omega
  | n + 1, m, 0, _ => by simp [markB]
  | n + 1, m, i + 1, h => by
    rw [markB, List.getElem?_cons_succ, markB_at n (m + 1) i (by omega)]
    rw [show m + 1 + (i : Int) = m + ((i + 1 : Nat) : Int) by omega]
theorem laws_heldByteS_ev (n : Nat) (m : Int) (h0 : 0 ≤ m) (h1 : m ≤ 1000000000) (hs : n ≤ 1000000000) : Ev (fun k => laws_heldByteS.f k (markB m n) m) (m + n) := by
  unfold laws_heldByteS.f
  have hl := markB_len n m
  have h := ev_listI0 (fun k (s : Int) i => laws_heldByteS.l0 k (markB m n) s i) (markB m n) (fun s i => s = m + i) (fun _ _ _ => m + n) m (by simp) ?_ ?_
  · exact h
  · intro s hm
    refine Ev.step (fun k => by rw [laws_heldByteS.l0]) ?_
    refine ev_neg (by omega) (ev_some ?_)
    rw [hm, hl]
  · intro s i x r hm hi hx hd ih
    refine Ev.step (fun k => by rw [laws_heldByteS.l0]) ?_
    have hx2 := markB_at n m i (by omega)
    refine ev_pos (by omega) (ev_pos (by omega) ?_)
    rw [show rd (markB m n) (i : Int) = (m + i) % 256 from getD_at hx2, hm]
    refine ev_pos rfl ?_
    rw [wrap_succ (by omega), wrap_id (by omega) (by omega)]
    exact ih _ (by omega)

theorem FnExactPutNode : ∀ (a0_0 : Bool) (l0_1 : List ByteArray) (l0_2 : List ByteArray) (l0_3 : List Int), (l0_1.length * 16 ≤ 140737488351232 ∧ ∀ e0 ∈ l0_1, e0.size ≤ 140737488351232) → (l0_2.length * 16 ≤ 140737488351232 ∧ ∀ e0 ∈ l0_2, e0.size ≤ 140737488351232) → (l0_3.length * 8 ≤ 140737488351232 ∧ ∀ e0 ∈ l0_3, (-9223372036854775808 ≤ e0 ∧ e0 ≤ 9223372036854775807)) → ∃ k, laws_FnExactPutNode.f k a0_0 l0_1 l0_2 l0_3 = some true := by
  intro b ks vs ids hk hv hi
  refine Ev.rounds ?_
  unfold laws_FnExactPutNode.f
  refine Ev.bind (laws_szNode_ev b ks vs ids _ (by omega) (by omega) hk hv (by omega)) ?_
  refine ev_ite (fun _ => ev_some rfl) (fun h => ?_)
  obtain ⟨c, _⟩ := szC_of h
  have ca : nodeAll ks vs ids ≤ 1048576 := by omega
  unfold nodeAll at ca
  have t := laws_toNode_ev b ks vs ids (by omega) (by omega) (by omega)
  have sp := spec_PutNode_ev b ks vs ids (by omega) (by omega) (by omega)
  have im := impl_PutNode_ev b ks vs ids (by omega) (by omega) (by omega)
  have ln : (putNM b ks vs ids).length ≤ 10000000 := by
    unfold putNM
    split
    · have := nodeB_len b ks vs ids; omega
    · simp
  generalize putNM b ks vs ids = D at sp im ln
  have e1 := laws_eqByteS_self D (by omega)
  refine Ev.bind t (Ev.bind sp (Ev.bind t (Ev.bind im (Ev.bind e1 (ev_pos rfl ?_)))))
  refine Ev.bind t (Ev.bind (laws_eqNode_self b ks vs ids (by omega) (by omega) (by omega)) (ev_pos rfl ?_))
  refine Ev.bind (laws_markNode_ev b ks vs ids 1 (by omega) (by omega) (by omega) (by omega) (by omega)) (ev_neg (by simp only; omega) (Ev.bind e1 ?_))
  refine Ev.step (fun k => by rw [laws_FnExactPutNode.j0]) (ev_neg (by simp) ?_)
  refine Ev.bind (laws_markByteS_ev D 1 (by omega) (by omega) (by omega)) ?_
  have hh := laws_heldByteS_ev D.length 1 (by omega) (by omega) (by omega)
  refine Ev.bind hh (ev_neg (by omega) (ev_pos rfl ?_))
  refine Ev.bind t (Ev.bind im (Ev.bind e1 (ev_pos rfl ?_)))
  exact Ev.bind hh (ev_neg (by omega) (ev_pos rfl (ev_some rfl)))

end Go.Proofs.Ytllgmgpfdnofmaa.Pure
