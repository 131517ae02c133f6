import Derived.Test.YtllgmgpfdnofmaaZNDPFnNodesx17
import Derived.Test.YtllgmgpfdnofmaaZNDKit
import Derived.Test.YtllgmgpfdnofmaaZNDKitB
import Derived.Test.YtllgmgpfdnofmaaZNDKitD
import Derived.Test.YtllgmgpfdnofmaaZNDKitE
import Derived.Test.YtllgmgpfdnofmaaZNDKitF
import Derived.Test.YtllgmgpfdnofmaaZNDKitC
namespace Go.Proofs.Ytllgmgpfdnofmaa.Pure
open Go.RowKit Go.Proofs.Ytllgmgpfdnofmaa.PFnNodes Go.Proofs.YtllgmgpfdnofmaaW.PrintWords Go.Proofs.YtllgmgpfdnofmaaW.PrintLast Go.Proofs.YtllgmgpfdnofmaaW.PrintMore Go.Proofs.Ytllgmgpfdnofmaa.Kit Go.Proofs.Ytllgmgpfdnofmaa.KitB Go.Proofs.Ytllgmgpfdnofmaa.KitD Go.Proofs.Ytllgmgpfdnofmaa.KitE Go.Proofs.Ytllgmgpfdnofmaa.KitF Go.Proofs.Ytllgmgpfdnofmaa.KitC
theorem impl_addU_loop (s : List Int) (n : Int) (hs : s.length < 140737488355317) (h0 : 0 ≤ n) (h1 : n ≤ 1000000) : Ev (fun k => impl_addU.l0 k s n) (s ++ groups n) := by
  refine ev_groups (fun k s n => impl_addU.l0 k s n) ?_ ?_ s n hs h0 h1
  · intro s n r hs h0 h1 ih
    refine Ev.step (fun k => by rw [impl_addU.l0]) ?_
    refine ev_pos h0 (ev_pos (by omega) ?_)
    rw [Int.tmod_eq_emod_of_nonneg (by omega), Int.tdiv_eq_ediv_of_nonneg (by omega), wrap_id (by omega) (by omega), wrap_id (by omega) (by omega), show (n % 128 + 128) % 256 = n % 128 + 128 by omega]
    exact ih
  · intro s n hs h0 h1
    refine Ev.step (fun k => by rw [impl_addU.l0]) ?_
    refine ev_neg (by omega) (ev_pos (by omega) (ev_some ?_))
    rw [show n % 256 = n by omega]
theorem impl_addU_ev (l : List Int) (n : Int) (hs : l.length < 140737488355317) : Ev (fun k => impl_addU.f k l n) (l ++ uM n) := by
  have hb := clampU_bd n
  unfold impl_addU.f impl_clamp.f
  refine Ev.bind (ev_c rfl) ?_
  rw [clampU_mx]
  exact impl_addU_loop _ _ hs hb.1 hb.2
theorem impl_addText_ev (l : List Int) (s : ByteArray) (hs : l.length + s.size < 140737488355310) : Ev (fun k => impl_addText.f k l s) (l ++ uM s.size ++ bytesOf s) := by
  have hb := uM_len s.size
  unfold impl_addText.f
  refine Ev.bind (impl_addU_ev l _ (by omega)) (ev_pos (by simp only [List.length_append]; omega) (ev_some rfl))
theorem impl_bodyOf_ev (b : Bool) (ks vs : List ByteArray) (ids : List Int) (hk : ks.length + (ks.map ByteArray.size).sum ≤ 1048576) (hv : vs.length + (vs.map ByteArray.size).sum ≤ 1048576) (hi : ids.length ≤ 1048576) :
    Ev (fun k => impl_bodyOf.f k b ks vs ids) (nodeB b ks vs ids) := by
  have s1 := sum_le3 ks txtM ByteArray.size txtM_len
  have s2 := sum_le3 vs txtM ByteArray.size txtM_len
  have s3 := sum_uM ids
  have txt : ∀ (s : List Int) (x : ByteArray), s.length + (txtM x).length ≤ 1000000000 → Ev (fun k => impl_addText.f k s x) (s ++ txtM x) := by
    intro s x h
    have e : (txtM x).length = (uM x.size).length + x.size := by unfold txtM; rw [List.length_append, bytesOf_length]
    unfold txtM
    rw [← List.append_assoc]
    exact impl_addText_ev s x (by omega)
  have kids : ∀ s, s.length + (ids.map fun x => (uM x).length).sum ≤ 1000000000 → Ev (fun k => impl_bodyOf.l2 k s ids (ids.length : Int) 0) (s ++ ids.flatMap uM) := by
    intro s hs
    refine ev_flat (fun k s i => impl_bodyOf.l2 k s ids (ids.length : Int) i) ids uM (fun s => s) 1000000000 ?_ ?_ s hs
    · intro s _
      refine Ev.step (fun k => by rw [impl_bodyOf.l2]) (ev_neg (by omega) (ev_some rfl))
    · intro s i x r hB hi' hx ih
      refine Ev.step (fun k => by rw [impl_bodyOf.l2]) (ev_pos (by omega) (ev_pos (by omega) (ev_pos (by omega) ?_)))
      rw [show rd ids (i : Int) = x from getD_at hx, wrap_succ (by omega)]
      exact Ev.bind (impl_addU_ev s x (by omega)) ih
  have vals : ∀ s, s.length + (vs.map fun x => (txtM x).length).sum ≤ 1000000000 → Ev (fun k => impl_bodyOf.l1 k s vs (vs.length : Int) 0) (s ++ vs.flatMap txtM) := by
    intro s hs
    refine ev_flat (fun k s i => impl_bodyOf.l1 k s vs (vs.length : Int) i) vs txtM (fun s => s) 1000000000 ?_ ?_ s hs
    · intro s _
      refine Ev.step (fun k => by rw [impl_bodyOf.l1]) (ev_neg (by omega) (ev_some rfl))
    · intro s i x r hB hi' hx ih
      refine Ev.step (fun k => by rw [impl_bodyOf.l1]) (ev_pos (by omega) (ev_pos (by omega) (ev_pos (by omega) ?_)))
      rw [show rdOf ByteArray.empty vs (i : Int) = x from getD_at hx, wrap_succ (by omega)]
      exact Ev.bind (txt s x (by omega)) ih
  have keys : ∀ s, s.length + (ks.map fun x => (txtM x).length).sum + (vs.map fun x => (txtM x).length).sum + (ids.map fun x => (uM x).length).sum ≤ 1000000000 → Ev (fun k => impl_bodyOf.l0 k s ks (ks.length : Int) 0 b ks vs ids) (if b = true then (s ++ ks.flatMap txtM) ++ vs.flatMap txtM else (s ++ ks.flatMap txtM) ++ ids.flatMap uM) := by
    intro s hs
    refine ev_flat (fun k s i => impl_bodyOf.l0 k s ks (ks.length : Int) i b ks vs ids) ks txtM (fun s => if b = true then s ++ vs.flatMap txtM else s ++ ids.flatMap uM) (1000000000 - (vs.map fun x => (txtM x).length).sum - (ids.map fun x => (uM x).length).sum) ?_ ?_ s (by omega)
    · intro s hs2
      refine Ev.step (fun k => by rw [impl_bodyOf.l0]) (ev_neg (by omega) (ev_ite (fun h => ?_) (fun h => ?_)))
      · rw [if_pos h]; exact vals s (by omega)
      · rw [if_neg h]; exact kids s (by omega)
    · intro s i x r hB hi' hx ih
      refine Ev.step (fun k => by rw [impl_bodyOf.l0]) (ev_pos (by omega) (ev_pos (by omega) (ev_pos (by omega) ?_)))
      rw [show rdOf ByteArray.empty ks (i : Int) = x from getD_at hx, wrap_succ (by omega)]
      exact Ev.bind (txt s x (by omega)) ih
  have head : ∀ s, s.length ≤ 3 → Ev (fun k => impl_bodyOf.j0 k s b ks vs ids) (if b = true then (s ++ uM ks.length ++ ks.flatMap txtM) ++ vs.flatMap txtM else (s ++ uM ks.length ++ ks.flatMap txtM) ++ ids.flatMap uM) := by
    intro s hs
    have h2 := uM_len ks.length
    refine Ev.step (fun k => by rw [impl_bodyOf.j0]) ?_
    exact Ev.bind (impl_addU_ev _ _ (by omega)) (keys _ (by rw [List.length_append]; omega))
  unfold impl_bodyOf.f nodeB
  refine ev_ite (fun h => ?_) (fun h => ?_)
  · have z := head ([] ++ [1]) (by simp)
    simp only [if_pos h] at z ⊢
    exact ev_pos (by simp) z
  · have z := head ([] ++ [0]) (by simp)
    simp only [if_neg h] at z ⊢
    exact ev_pos (by simp) z
theorem impl_SizeOf_ev (b : Bool) (ks vs : List ByteArray) (ids : List Int) (hk : ks.length + (ks.map ByteArray.size).sum ≤ 1048576) (hv : vs.length + (vs.map ByteArray.size).sum ≤ 1048576) (hi : ids.length ≤ 1048576) :
    Ev (fun k => impl_SizeOf.f k b ks vs ids) ((nodeB b ks vs ids).length : Int) := by
  unfold impl_SizeOf.f
  exact Ev.bind (impl_bodyOf_ev b ks vs ids hk hv hi) (ev_some rfl)
theorem impl_in_eq (a b c : Int) : impl_in.f a b c = some (inB a b c) := by unfold impl_in.f inB; split <;> rfl
theorem impl_isSector_eq (n : Int) : impl_isSector.f n = some (inB n 2 47) := by unfold impl_isSector.f; rw [impl_in_eq]; rfl
theorem impl_NodeOk_ev (b : Bool) (ks vs : List ByteArray) (ids : List Int) (hk : ks.length + (ks.map ByteArray.size).sum ≤ 1048576) (hv : vs.length + (vs.map ByteArray.size).sum ≤ 1048576) (hi : ids.length ≤ 1048576) :
    Ev (fun k => impl_NodeOk.f k b ks vs ids) (nodeOkM b ks vs ids) := by
  have sz := impl_SizeOf_ev b ks vs ids hk hv hi
  have l1 : Ev (fun k => impl_NodeOk.l1 k vs (vs.length : Int) 0 b ks vs ids) (decide (((nodeB b ks vs ids).length : Int) ≤ 240) && (vs.all (fun v => decide ((v.size : Int) ≤ 60)) && decide (1 ≤ ks.length) && decide (vs.length = ks.length) && decide (ids.length = 0))) := by
    have h := ev_all (fun k i => impl_NodeOk.l1 k vs (vs.length : Int) i b ks vs ids) vs (fun v => decide ((v.size : Int) ≤ 60)) (decide (((nodeB b ks vs ids).length : Int) ≤ 240) && (decide (1 ≤ ks.length) && decide (vs.length = ks.length) && decide (ids.length = 0))) ?_ ?_
    · refine ev_eq h ?_
      by_cases c : vs.all (fun v => decide ((v.size : Int) ≤ 60)) = true
      · rw [if_pos c, c, Bool.true_and]
      · rw [if_neg c, Bool.eq_false_iff.2 c, Bool.false_and, Bool.false_and, Bool.false_and, Bool.and_false]
    · refine Ev.step (fun k => by rw [impl_NodeOk.l1]) (ev_neg (by omega) ?_)
      refine ev_ite (fun c => ?_) (fun c => ev_some (by rw [decide_eq_false (show ¬ 1 ≤ ks.length by omega)]; simp))
      rw [decide_eq_true (show 1 ≤ ks.length by omega), Bool.true_and]
      refine ev_ite (fun c => ?_) (fun c => ev_some (by rw [decide_eq_false (show ¬ vs.length = ks.length by omega)]; simp))
      rw [decide_eq_true (show vs.length = ks.length by omega), Bool.true_and]
      refine ev_ite (fun c => ?_) (fun c => ev_some (by rw [decide_eq_false (show ¬ ids.length = 0 by omega)]; simp))
      rw [decide_eq_true (show ids.length = 0 by omega), Bool.and_true]
      exact Ev.bind sz (ev_some rfl)
    · intro i x r hi' hx ih
      refine Ev.step (fun k => by rw [impl_NodeOk.l1]) (ev_pos (by omega) (ev_pos (by omega) (ev_pos (by omega) ?_)))
      rw [show rdOf ByteArray.empty vs (i : Int) = x from getD_at hx, wrap_succ (by omega)]
      refine ev_ite (fun c => ?_) (fun c => ?_)
      · rw [if_neg (by simp only [decide_eq_true_eq]; omega)]; exact ev_some rfl
      · rw [if_pos (by simp only [decide_eq_true_eq]; omega)]; exact ih
  have l2 : Ev (fun k => impl_NodeOk.l2 k ids (ids.length : Int) 0 b ks vs ids) (decide (((nodeB b ks vs ids).length : Int) ≤ 240) && (ids.all (fun n => inB n 2 47) && decide (1 ≤ ids.length) && decide (ks.length + 1 = ids.length) && decide (vs.length = 0))) := by
    have h := ev_all (fun k i => impl_NodeOk.l2 k ids (ids.length : Int) i b ks vs ids) ids (fun n => inB n 2 47) (decide (((nodeB b ks vs ids).length : Int) ≤ 240) && (decide (1 ≤ ids.length) && decide (ks.length + 1 = ids.length) && decide (vs.length = 0))) ?_ ?_
    · refine ev_eq h ?_
      by_cases c : ids.all (fun n => inB n 2 47) = true
      · rw [if_pos c, c, Bool.true_and]
      · rw [if_neg c, Bool.eq_false_iff.2 c, Bool.false_and, Bool.false_and, Bool.false_and, Bool.and_false]
    · refine Ev.step (fun k => by rw [impl_NodeOk.l2]) (ev_neg (by omega) ?_)
      refine ev_ite (fun c => ?_) (fun c => ev_some (by rw [decide_eq_false (show ¬ 1 ≤ ids.length by omega)]; simp))
      rw [decide_eq_true (show 1 ≤ ids.length by omega), Bool.true_and, wrap_id (by omega) (by omega)]
      refine ev_ite (fun c => ?_) (fun c => ev_some (by rw [decide_eq_false (show ¬ ks.length + 1 = ids.length by omega)]; simp))
      rw [decide_eq_true (show ks.length + 1 = ids.length by omega), Bool.true_and]
      refine ev_ite (fun c => ?_) (fun c => ev_some (by rw [decide_eq_false (show ¬ vs.length = 0 by omega)]; simp))
      rw [decide_eq_true (show vs.length = 0 by omega), Bool.and_true]
      exact Ev.bind sz (ev_some rfl)
    · intro i x r hi' hx ih
      refine Ev.step (fun k => by rw [impl_NodeOk.l2]) (ev_pos (by omega) (ev_pos (by omega) (ev_pos (by omega) ?_)))
      rw [show rd ids (i : Int) = x from getD_at hx, wrap_succ (by omega)]
      refine Ev.bind (ev_c (impl_isSector_eq _)) (ev_ite (fun c => ?_) (fun c => ?_))
      · rw [if_pos c]; exact ih
      · rw [if_neg c]; exact ev_some rfl
  unfold impl_NodeOk.f
  have h := ev_listI0 (fun k (_ : Unit) i => impl_NodeOk.l0 k ks (ks.length : Int) i b ks vs ids) ks (fun _ _ => True) (fun _ i r => risingM (if i = 0 then none else ks[i - 1]?) r && (decide (((nodeB b ks vs ids).length : Int) ≤ 240) && (if b = true then vs.all (fun v => decide ((v.size : Int) ≤ 60)) && decide (1 ≤ ks.length) && decide (vs.length = ks.length) && decide (ids.length = 0) else ids.all (fun n => inB n 2 47) && decide (1 ≤ ids.length) && decide (ks.length + 1 = ids.length) && decide (vs.length = 0)))) () trivial ?_ ?_
  · unfold nodeOkM
    rw [Bool.and_assoc]
    exact h
  · intro s hI
    refine Ev.step (fun k => by rw [impl_NodeOk.l0]) (ev_neg (by omega) ?_)
    simp only [risingM, Bool.true_and]
    exact ev_ite (fun h => by rw [if_pos h]; exact l1) (fun h => by rw [if_neg h]; exact l2)
  · intro s i x r hI hi' hx hd ih
    have ih := ih () trivial
    rw [if_neg (show ¬ i + 1 = 0 by omega), show i + 1 - 1 = i by omega, hx] at ih
    refine Ev.step (fun k => by rw [impl_NodeOk.l0]) ?_
    refine ev_pos (by omega) (ev_pos (by omega) (ev_pos (by omega) ?_))
    rw [wrap_succ (by omega), show rdOf ByteArray.empty ks (i : Int) = x from getD_at hx]
    unfold risingM
    refine ev_ite (fun c => by rw [if_pos c, Bool.false_and]; exact ev_some rfl) (fun c => ?_)
    rw [if_neg c]
    by_cases h0 : i = 0
    · subst h0
      exact ev_neg (by omega) ih
    · obtain ⟨y, hy⟩ : ∃ y, ks[i - 1]? = some y := ⟨_, List.getElem?_eq_getElem (by omega)⟩
      rw [if_neg h0, hy]
      have e : wrap64 ((i : Int) - 1) = ((i - 1 : Nat) : Int) := by rw [wrap_id (by omega) (by omega)]; omega
      refine ev_pos (by omega) ?_
      rw [e]
      refine ev_pos (by omega) (ev_pos (by omega) ?_)
      rw [show rdOf ByteArray.empty ks ((i - 1 : Nat) : Int) = y from getD_at hy]
      exact ev_ite (fun c => by simp only [if_pos c]; exact ih) (fun c => by simp only [if_neg c, Bool.false_and]; exact ev_some rfl)
def putNM (b : Bool) (ks vs : List ByteArray) (ids : List Int) : List Int := if nodeOkM b ks vs ids = true then nodeB b ks vs ids else []
theorem impl_PutNode_ev (b : Bool) (ks vs : List ByteArray) (ids : List Int) (hk : ks.length + (ks.map ByteArray.size).sum ≤ 1048576) (hv : vs.length + (vs.map ByteArray.size).sum ≤ 1048576) (hi : ids.length ≤ 1048576) :
    Ev (fun k => impl_PutNode.f k b ks vs ids) (putNM b ks vs ids) := by
  unfold impl_PutNode.f putNM
  exact Ev.bind (impl_NodeOk_ev b ks vs ids hk hv hi) (ev_ite (fun h => by rw [if_pos h]; exact Ev.bind (impl_bodyOf_ev b ks vs ids hk hv hi) (ev_some rfl)) (fun h => by rw [if_neg h]; exact ev_some rfl))
theorem spec_PutU_loop (s : List Int) (n : Int) (hs : s.length < 140737488355317) (h0 : 0 ≤ n) (h1 : n ≤ 1000000) : Ev (fun k => spec_PutU.l0 k n s) (s ++ groups n) := by
  refine ev_groups (fun k s n => spec_PutU.l0 k n s) ?_ ?_ s n hs h0 h1
  · intro s n r hs h0 h1 ih
    refine Ev.step (fun k => by rw [spec_PutU.l0]) ?_
    refine ev_pos h0 (ev_pos (by omega) ?_)
    rw [and127 n (by omega) (by omega), or128 _ (by omega) (by omega), show (n % 128 + 128) % 256 = n % 128 + 128 by omega]
    exact ih
  · intro s n hs h0 h1
    refine Ev.step (fun k => by rw [spec_PutU.l0]) ?_
    refine ev_neg (by omega) (ev_pos (by omega) (ev_some ?_))
    rw [show n % 256 = n by omega]
theorem spec_PutU_ev (l : List Int) (n : Int) (hs : l.length < 140737488355317) : Ev (fun k => spec_PutU.f k l n) (l ++ uM n) := by
  have hb := clampU_bd n
  unfold spec_PutU.f
  refine Ev.bind (ev_c rfl) (ev_pos (by simp; omega) (Ev.bind (ev_c rfl) ?_))
  simp only [List.nil_append]
  unfold uM
  refine ev_ite (fun h => ?_) (fun h => ?_)
  · have e : clampU n = 1000000 := by unfold clampU; rw [if_neg (by omega), if_pos h]
    rw [e]
    refine Ev.step (fun k => by rw [spec_PutU.j0]) (ev_neg (by omega) (Ev.step (fun k => by rw [spec_PutU.j1]) ?_))
    exact spec_PutU_loop _ _ hs (by omega) (by omega)
  · refine Ev.step (fun k => by rw [spec_PutU.j0]) (ev_ite (fun h2 => ?_) (fun h2 => ?_))
    · have e : clampU n = 0 := by unfold clampU; rw [if_pos h2]
      rw [e]
      exact Ev.step (fun k => by rw [spec_PutU.j1]) (spec_PutU_loop _ _ hs (by omega) (by omega))
    · have e : clampU n = n := by unfold clampU; rw [if_neg h2, if_neg h]
      rw [e]
      exact Ev.step (fun k => by rw [spec_PutU.j1]) (spec_PutU_loop _ _ hs (by omega) (by omega))
theorem spec_PutText_ev (l : List Int) (s : ByteArray) (hs : l.length + s.size < 140737488355310) : Ev (fun k => spec_PutText.f k l s) (l ++ uM s.size ++ bytesOf s) := by
  have hb := uM_len s.size
  unfold spec_PutText.f
  refine Ev.bind (spec_PutU_ev l _ (by omega)) (ev_pos (by simp only [List.length_append]; omega) (ev_some rfl))
theorem spec_l14Put_ev (b : Bool) (ks vs : List ByteArray) (ids : List Int) (hk : ks.length + (ks.map ByteArray.size).sum ≤ 1048576) (hv : vs.length + (vs.map ByteArray.size).sum ≤ 1048576) (hi : ids.length ≤ 1048576) :
    Ev (fun k => spec_l14Put.f k b ks vs ids) (nodeB b ks vs ids) := by
  have s1 := sum_le3 ks txtM ByteArray.size txtM_len
  have s2 := sum_le3 vs txtM ByteArray.size txtM_len
  have s3 := sum_uM ids
  have txt : ∀ (s : List Int) (x : ByteArray), s.length + (txtM x).length ≤ 1000000000 → Ev (fun k => spec_PutText.f k s x) (s ++ txtM x) := by
    intro s x h
    have e : (txtM x).length = (uM x.size).length + x.size := by unfold txtM; rw [List.length_append, bytesOf_length]
    unfold txtM
    rw [← List.append_assoc]
    exact spec_PutText_ev s x (by omega)
  have kids : ∀ s, b = false → s.length + (ids.map fun x => (uM x).length).sum ≤ 1000000000 → Ev (fun k => spec_l14Put.l2 k s 0 b ks vs ids) (s ++ ids.flatMap uM) := by
    intro s hb hs
    subst hb
    refine ev_flat (fun k s i => spec_l14Put.l2 k s i false ks vs ids) ids uM (fun s => s) 1000000000 ?_ ?_ s hs
    · intro s _
      refine Ev.step (fun k => by rw [spec_l14Put.l2]) (ev_neg (by omega) (ev_some rfl))
    · intro s i x r hB hi' hx ih
      refine Ev.step (fun k => by rw [spec_l14Put.l2]) (ev_pos (by omega) (ev_neg (by simp) (ev_pos (by omega) ?_)))
      rw [show rd ids (i : Int) = x from getD_at hx, wrap_succ (by omega)]
      exact Ev.bind (spec_PutU_ev s x (by omega)) ih
  have j3 : ∀ s, s.length + (ids.map fun x => (uM x).length).sum ≤ 1000000000 → Ev (fun k => spec_l14Put.j3 k s b ks vs ids) (if b = true then s else s ++ ids.flatMap uM) := by
    intro s hs
    refine Ev.step (fun k => by rw [spec_l14Put.j3]) ?_
    cases b with
    | false => exact kids s rfl hs
    | true =>
      refine Ev.step (fun k => by rw [spec_l14Put.l2]) ?_
      refine ev_ite (fun _ => ?_) (fun _ => ?_)
      · exact ev_pos rfl (ev_some rfl)
      · exact ev_some rfl
  have vals : ∀ s, s.length + (vs.map fun x => (txtM x).length).sum + (ids.map fun x => (uM x).length).sum ≤ 1000000000 → Ev (fun k => spec_l14Put.l1 k s 0 b ks vs ids) (if b = true then s ++ vs.flatMap txtM else s ++ ids.flatMap uM) := by
    intro s hs
    cases b with
    | false =>
      refine Ev.step (fun k => by rw [spec_l14Put.l1]) ?_
      refine ev_ite (fun _ => ?_) (fun _ => ?_)
      · exact ev_neg (by simp) (j3 s (by omega))
      · exact j3 s (by omega)
    | true =>
      refine ev_flat (fun k s i => spec_l14Put.l1 k s i true ks vs ids) vs txtM (fun s => s) (1000000000 - (ids.map fun x => (uM x).length).sum) ?_ ?_ s (by omega)
      · intro s hs2
        refine Ev.step (fun k => by rw [spec_l14Put.l1]) (ev_neg (by omega) (j3 s (by omega)))
      · intro s i x r hB hi' hx ih
        refine Ev.step (fun k => by rw [spec_l14Put.l1]) (ev_pos (by omega) (ev_pos rfl (ev_pos (by omega) ?_)))
        rw [show rdOf ByteArray.empty vs (i : Int) = x from getD_at hx, wrap_succ (by omega)]
        exact Ev.bind (txt s x (by omega)) ih
  have keys : ∀ s, s.length + (ks.map fun x => (txtM x).length).sum + (vs.map fun x => (txtM x).length).sum + (ids.map fun x => (uM x).length).sum ≤ 1000000000 → Ev (fun k => spec_l14Put.l0 k s 0 b ks vs ids) (if b = true then (s ++ ks.flatMap txtM) ++ vs.flatMap txtM else (s ++ ks.flatMap txtM) ++ ids.flatMap uM) := by
    intro s hs
    refine ev_flat (fun k s i => spec_l14Put.l0 k s i b ks vs ids) ks txtM (fun s => if b = true then s ++ vs.flatMap txtM else s ++ ids.flatMap uM) (1000000000 - (vs.map fun x => (txtM x).length).sum - (ids.map fun x => (uM x).length).sum) ?_ ?_ s (by omega)
    · intro s hs2
      refine Ev.step (fun k => by rw [spec_l14Put.l0]) (ev_neg (by omega) (vals s (by omega)))
    · intro s i x r hB hi' hx ih
      refine Ev.step (fun k => by rw [spec_l14Put.l0]) (ev_pos (by omega) (ev_pos (by omega) ?_))
      rw [show rdOf ByteArray.empty ks (i : Int) = x from getD_at hx, wrap_succ (by omega)]
      exact Ev.bind (txt s x (by omega)) ih
  have head : ∀ n : Int, Ev (fun k => spec_l14Put.j0 k n b ks vs ids) (if b = true then (uM n ++ uM ks.length ++ ks.flatMap txtM) ++ vs.flatMap txtM else (uM n ++ uM ks.length ++ ks.flatMap txtM) ++ ids.flatMap uM) := by
    intro n
    have h1 := uM_len n
    have h2 := uM_len ks.length
    refine Ev.step (fun k => by rw [spec_l14Put.j0]) ?_
    refine Ev.bind (spec_PutU_ev [] n (by simp)) ?_
    rw [List.nil_append]
    exact Ev.bind (spec_PutU_ev _ _ (by omega)) (keys _ (by rw [List.length_append]; omega))
  unfold spec_l14Put.f nodeB
  refine ev_ite (fun h => ?_) (fun h => ?_)
  · have z := head 1
    simp only [if_pos h] at z ⊢
    exact z
  · have z := head 0
    simp only [if_neg h] at z ⊢
    exact z
theorem spec_SizeOf_ev (b : Bool) (ks vs : List ByteArray) (ids : List Int) (hk : ks.length + (ks.map ByteArray.size).sum ≤ 1048576) (hv : vs.length + (vs.map ByteArray.size).sum ≤ 1048576) (hi : ids.length ≤ 1048576) :
    Ev (fun k => spec_SizeOf.f k b ks vs ids) ((nodeB b ks vs ids).length : Int) := by
  unfold spec_SizeOf.f
  exact Ev.bind (spec_l14Put_ev b ks vs ids hk hv hi) (ev_some rfl)
theorem spec_l14Rising_ev (ks : List ByteArray) (hk : ks.length ≤ 1048576) : Ev (fun k => spec_l14Rising.f k ks) (risingM none ks) := by
  have h := ev_listI0 (fun k (_ : Unit) i => spec_l14Rising.l0 k ks i) ks (fun _ _ => True) (fun _ i r => risingM (if i = 0 then none else ks[i - 1]?) r) () trivial ?_ ?_
  · exact h
  · intro s hI
    refine Ev.step (fun k => by rw [spec_l14Rising.l0]) ?_
    exact ev_neg (by omega) (ev_some rfl)
  · intro s i x r hI hi hx hd ih
    have ih := ih () trivial
    rw [if_neg (by omega), show i + 1 - 1 = i by omega, hx] at ih
    refine Ev.step (fun k => by rw [spec_l14Rising.l0]) ?_
    refine ev_pos (by omega) (ev_pos (by omega) ?_)
    rw [wrap_succ (by omega), show rdOf ByteArray.empty ks (i : Int) = x from getD_at hx]
    unfold risingM
    refine ev_ite (fun c => by rw [if_pos c]; exact ev_some rfl) (fun c => ?_)
    rw [if_neg c]
    by_cases h0 : i = 0
    · subst h0
      exact ev_neg (by omega) ih
    · obtain ⟨y, hy⟩ : ∃ y, ks[i - 1]? = some y := ⟨_, List.getElem?_eq_getElem (by omega)⟩
      rw [if_neg h0, hy]
      have e : wrap64 ((i : Int) - 1) = ((i - 1 : Nat) : Int) := by rw [wrap_id (by omega) (by omega)]; omega
      refine ev_pos (by omega) ?_
      rw [e]
      refine ev_pos (by omega) (ev_pos (by omega) ?_)
      rw [show rdOf ByteArray.empty ks ((i - 1 : Nat) : Int) = y from getD_at hy]
      exact ev_ite (fun c => by simp only [if_pos c]; exact ih) (fun c => by simp only [if_neg c]; exact ev_some rfl)
theorem spec_l1In_eq (a b c : Int) : spec_l1In.f a b c = some (inB a b c) := by unfold spec_l1In.f inB; split <;> rfl
theorem spec_NodeOk_ev (b : Bool) (ks vs : List ByteArray) (ids : List Int) (hk : ks.length + (ks.map ByteArray.size).sum ≤ 1048576) (hv : vs.length + (vs.map ByteArray.size).sum ≤ 1048576) (hi : ids.length ≤ 1048576) :
    Ev (fun k => spec_NodeOk.f k b ks vs ids) (nodeOkM b ks vs ids) := by
  have l0 : Ev (fun k => spec_NodeOk.l0 k 0 b ks vs ids) (vs.all (fun v => decide ((v.size : Int) ≤ 60)) && decide (1 ≤ ks.length) && decide (vs.length = ks.length) && decide (ids.length = 0)) := by
    have h := ev_all (fun k i => spec_NodeOk.l0 k i b ks vs ids) vs (fun v => decide ((v.size : Int) ≤ 60)) (decide (1 ≤ ks.length) && decide (vs.length = ks.length) && decide (ids.length = 0)) ?_ ?_
    · refine ev_eq h ?_
      by_cases c : vs.all (fun v => decide ((v.size : Int) ≤ 60)) = true
      · rw [if_pos c, c, Bool.true_and]
      · rw [if_neg c, Bool.eq_false_iff.2 c, Bool.false_and, Bool.false_and, Bool.false_and]
    · refine Ev.step (fun k => by rw [spec_NodeOk.l0]) (ev_neg (by omega) ?_)
      refine ev_ite (fun c => ?_) (fun c => ev_some (by rw [decide_eq_false (show ¬ 1 ≤ ks.length by omega)]; simp))
      rw [decide_eq_true (show 1 ≤ ks.length by omega), Bool.true_and]
      refine ev_ite (fun c => ev_some ?_) (fun c => ev_some (by rw [decide_eq_false (show ¬ vs.length = ks.length by omega)]; simp))
      rw [decide_eq_true (show vs.length = ks.length by omega), Bool.true_and, Bool.eq_iff_iff]
      simp
    · intro i x r hi' hx ih
      refine Ev.step (fun k => by rw [spec_NodeOk.l0]) (ev_pos (by omega) (ev_pos (by omega) ?_))
      rw [show rdOf ByteArray.empty vs (i : Int) = x from getD_at hx, wrap_succ (by omega)]
      refine ev_ite (fun c => ?_) (fun c => ?_)
      · rw [if_neg (by simp only [decide_eq_true_eq]; omega)]; exact ev_some rfl
      · rw [if_pos (by simp only [decide_eq_true_eq]; omega)]; exact ih
  have l1 : Ev (fun k => spec_NodeOk.l1 k 0 b ks vs ids) (ids.all (fun n => inB n 2 47) && decide (1 ≤ ids.length) && decide (ks.length + 1 = ids.length) && decide (vs.length = 0)) := by
    have h := ev_all (fun k i => spec_NodeOk.l1 k i b ks vs ids) ids (fun n => inB n 2 47) (decide (1 ≤ ids.length) && decide (ks.length + 1 = ids.length) && decide (vs.length = 0)) ?_ ?_
    · refine ev_eq h ?_
      by_cases c : ids.all (fun n => inB n 2 47) = true
      · rw [if_pos c, c, Bool.true_and]
      · rw [if_neg c, Bool.eq_false_iff.2 c, Bool.false_and, Bool.false_and, Bool.false_and]
    · refine Ev.step (fun k => by rw [spec_NodeOk.l1]) (ev_neg (by omega) ?_)
      refine ev_ite (fun c => ?_) (fun c => ev_some (by rw [decide_eq_false (show ¬ 1 ≤ ids.length by omega)]; simp))
      rw [decide_eq_true (show 1 ≤ ids.length by omega), Bool.true_and, wrap_id (by omega) (by omega)]
      refine ev_ite (fun c => ev_some ?_) (fun c => ev_some (by rw [decide_eq_false (show ¬ ks.length + 1 = ids.length by omega)]; simp))
      rw [decide_eq_true (show ks.length + 1 = ids.length by omega), Bool.true_and, Bool.eq_iff_iff]
      simp
    · intro i x r hi' hx ih
      refine Ev.step (fun k => by rw [spec_NodeOk.l1]) (ev_pos (by omega) (ev_pos (by omega) ?_))
      rw [show rd ids (i : Int) = x from getD_at hx, wrap_succ (by omega)]
      refine Ev.bind (ev_c (spec_l1In_eq _ _ _)) (ev_ite (fun c => ?_) (fun c => ?_))
      · rw [if_pos c]; exact ih
      · rw [if_neg c]; exact ev_some rfl
  have j0 : ∀ q : Bool, Ev (fun k => spec_NodeOk.j0 k q b ks vs ids) (if q = true then false else if b = true then (vs.all (fun v => decide ((v.size : Int) ≤ 60)) && decide (1 ≤ ks.length) && decide (vs.length = ks.length) && decide (ids.length = 0)) else (ids.all (fun n => inB n 2 47) && decide (1 ≤ ids.length) && decide (ks.length + 1 = ids.length) && decide (vs.length = 0))) := by
    intro q
    refine Ev.step (fun k => by rw [spec_NodeOk.j0]) (ev_ite (fun c => ?_) (fun c => ?_))
    · rw [if_pos c]; exact ev_some rfl
    · rw [if_neg c]
      exact ev_ite (fun h => by rw [if_pos h]; exact l0) (fun h => by rw [if_neg h]; exact l1)
  unfold spec_NodeOk.f nodeOkM
  refine Ev.bind (spec_l14Rising_ev ks (by omega)) ?_
  refine ev_ite (fun c => ?_) (fun c => ?_)
  · rw [c, Bool.true_and]
    refine Ev.bind (spec_SizeOf_ev b ks vs ids hk hv hi) (ev_eq (j0 _) ?_)
    by_cases d : ((nodeB b ks vs ids).length : Int) ≤ 240
    · rw [if_neg (by simp only [decide_eq_true_eq]; omega), decide_eq_true d, Bool.true_and]
    · rw [if_pos (by simp only [decide_eq_true_eq]; omega), decide_eq_false d, Bool.false_and]
  · rw [Bool.eq_false_iff.2 c, Bool.false_and, Bool.false_and]
    exact ev_eq (j0 true) (by simp)
theorem spec_GetU_round (b : List Int) (at_ : Nat) (hl : b.length ≤ 1000000000) (ha : at_ ≤ 1000000000) (hb : ∀ x ∈ b, 0 ≤ x ∧ x ≤ 255) : ∀ (d i : Nat) (v : Int), i + d = 3 → 0 ≤ v → v < 128 ^ i → Ev (fun k => spec_GetU.l0 k b (at_ : Int) v (i : Int)) (tripU at_ (getUR d i v (b.drop (at_ + i)))) := by
  intro d
  induction d with
  | zero =>
    intro i v hi h0 h1
    refine Ev.step (fun k => by rw [spec_GetU.l0]) (ev_neg (by omega) (Ev.step (fun k => by rw [spec_GetU.j1]) (ev_neg (by simp) (ev_some (by rfl)))))
  | succ d ih =>
    intro i v hi h0 h1
    have H1 := Aside0.mk h1
    clear h1
    have w1 : wrap64 ((at_ : Int) + i) = ((at_ + i : Nat) : Int) := by rw [wrap_id (by omega) (by omega)]; omega
    refine Ev.step (fun k => by rw [spec_GetU.l0]) (ev_pos (by omega) (ev_pos (by omega) ?_))
    rw [w1]
    by_cases c : at_ + i < b.length
    · refine ev_pos (by omega) (Ev.step (fun k => by rw [spec_GetU.j1]) (ev_pos (by rw [decide_eq_true]; omega) ?_))
      rw [w1]
      have hx : b[at_ + i]? = some b[at_ + i] := List.getElem?_eq_getElem c
      have hd := List.drop_eq_getElem_cons c
      have hx0 := hb _ (List.getElem_mem c)
      generalize b[at_ + i] = x at hx hd hx0
      rw [hd, rd_at hx, wrap_id (x := x) (by omega) (by omega)]
      have w2 : IntKind.u64.wrap (wrap64 (7 * (i : Int))) = 7 * (i : Int) := by rw [wrap_id (by omega) (by omega), IntKind.wrap_u64]; omega
      have w3 : wrap64 ((i : Int) + 1) = ((i + 1 : Nat) : Int) := wrap_succ (by omega)
      have w4 : wrap64 (((at_ + i : Nat) : Int) + 1) = ((at_ + (i + 1) : Nat) : Int) := by rw [wrap_id (by omega) (by omega)]; omega
      rw [w2, w3, w4, and127 x (by omega) (by omega), shl_at (x % 128) i (by omega) (by omega) (by omega), or_grp i (by omega) (x % 128) v (by omega) (by omega) h0 H1.out]
      have f1 : (0 : Int) ≤ ((at_ + i : Nat) : Int) := by omega
      have f2 : ((at_ + i : Nat) : Int) < (b.length : Int) := by omega
      have f3 : (0 : Int) ≤ 7 * (i : Int) := by omega
      have em : x > 127 → x % 128 = x - 128 := fun _ => by omega
      have el : ¬ x > 127 → x % 128 = x := fun _ => by omega
      have hi0 : (i : Int) > 0 ↔ i > 0 := by omega
      have g7 : x ≥ 128 ↔ x > 127 := by omega
      have i3 : i + 1 + d = 3 := by omega
      have BD := Aside0.mk (grp_bd i (by omega) (x % 128) v (by omega) (by omega) h0 H1.out)
      refine ev_pos f1 (ev_pos f2 (ev_pos f3 ?_))
      refine ev_ite (fun g => ?_) (fun g => ?_)
      · rw [getUR, if_pos g]
        rw [em g] at BD ⊢
        have := ih (i + 1) (v + (x - 128) * 128 ^ i) i3 BD.out.1 BD.out.2.1
        rwa [← Nat.add_assoc] at this
      · rw [getUR, if_neg g]
        rw [el g]
        refine ev_ite (fun g2 => ?_) (fun g2 => ?_)
        · refine ev_ite (fun g3 => ?_) (fun g3 => ?_)
          · rw [if_pos ⟨g3, hi0.1 g2⟩]; exact ev_some (by rfl)
          · rw [if_neg (show ¬ (x = 0 ∧ i > 0) from fun h => g3 h.1)]
            refine ev_ite (fun g4 => ?_) (fun g4 => ?_)
            · rw [if_pos (show v + x * 128 ^ i > 1000000 from g4)]; exact ev_some (by rfl)
            · rw [if_neg (show ¬ v + x * 128 ^ i > 1000000 from g4)]; exact ev_some (by rfl)
        · rw [if_neg (show ¬ (x = 0 ∧ i > 0) from fun h => g2 (hi0.2 h.2))]
          refine ev_ite (fun g4 => ?_) (fun g4 => ?_)
          · rw [if_pos (show v + x * 128 ^ i > 1000000 from g4)]; exact ev_some (by rfl)
          · rw [if_neg (show ¬ v + x * 128 ^ i > 1000000 from g4)]; exact ev_some (by rfl)
    · have hd : b.drop (at_ + i) = [] := List.drop_eq_nil_of_le (by omega)
      rw [hd, getUR]
      refine ev_ite (fun _ => ?_) (fun _ => ?_)
      · exact Ev.step (fun k => by rw [spec_GetU.j1]) (ev_neg (by rw [decide_eq_true_iff]; omega) (ev_some (by rfl)))
      · exact Ev.step (fun k => by rw [spec_GetU.j1]) (ev_neg (by simp) (ev_some (by rfl)))
theorem spec_GetU_ev (b : List Int) (at_ : Nat) (hl : b.length ≤ 1000000000) (ha : at_ ≤ 1000000000) (hb : ∀ x ∈ b, 0 ≤ x ∧ x ≤ 255) : Ev (fun k => spec_GetU.f k b (at_ : Int)) (tripU at_ (getUM (b.drop at_))) := by
  unfold spec_GetU.f
  exact spec_GetU_round b at_ hl ha hb 3 0 0 (by omega) (by omega) (by simp)
theorem spec_l14Num_ev (b : List Int) (at_ : Nat) (bad : Bool) (hl : b.length ≤ 1000000000) (ha : at_ ≤ 1000000000) (hb : ∀ x ∈ b, 0 ≤ x ∧ x ≤ 255) : Ev (fun k => spec_l14Num.f k b (at_ : Int) bad) (if bad = true then (0, (at_ : Int), true) else match getUM (b.drop at_) with | none => (0, (at_ : Int), true) | some (n, c) => (n, ((at_ + c : Nat) : Int), false)) := by
  unfold spec_l14Num.f
  have hu := spec_GetU_ev b at_ hl ha hb
  refine Ev.bind hu (ev_ite (fun h => by rw [if_pos h]; exact ev_some rfl) (fun h => ?_))
  rw [if_neg h]
  have hf : bad = false := Bool.eq_false_iff.2 h
  subst hf
  cases getUM (b.drop at_) with
  | none => exact ev_neg (by simp [tripU]) (ev_some rfl)
  | some p => obtain ⟨n, c⟩ := p; exact ev_pos rfl (ev_some rfl)
theorem spec_GetText_ev (b : List Int) (at_ : Nat) (hl : b.length ≤ 1000000000) (ha : at_ ≤ b.length) (hb : ∀ x ∈ b, 0 ≤ x ∧ x ≤ 255) : Ev (fun k => spec_GetText.f k b (at_ : Int)) (tripT at_ (getTextM (b.drop at_))) := by
  have hbd : ∀ x ∈ b.drop at_, 0 ≤ x ∧ x ≤ 255 := fun x hx => hb x (List.mem_of_mem_drop hx)
  have hu := spec_GetU_ev b at_ hl (by omega) hb
  unfold spec_GetText.f getTextM
  cases hg : getUM (b.drop at_) with
  | none =>
    rw [hg] at hu
    have hu2 : Ev (fun k => spec_GetU.f k b (at_ : Int)) ((0, 0, false) : Int × Int × Bool) := hu
    exact Ev.bind hu2 (ev_neg (by simp) (ev_some (by rfl)))
  | some p =>
    obtain ⟨n, c⟩ := p
    have ⟨n0, n1, cl, c1, _, _⟩ := getUM_exact hbd hg
    rw [List.length_drop] at cl
    rw [hg] at hu
    have hu2 : Ev (fun k => spec_GetU.f k b (at_ : Int)) ((n, ((at_ + c : Nat) : Int), true) : Int × Int × Bool) := hu
    refine Ev.bind hu2 (ev_pos rfl ?_)
    dsimp only
    rw [wrap_id (x := (b.length : Int) - ((at_ + c : Nat) : Int)) (by omega) (by omega), wrap_id (x := ((at_ + c : Nat) : Int) + n) (by omega) (by omega), List.length_drop]
    refine ev_ite (fun g => ?_) (fun g => ?_)
    · rw [if_pos (show n > ((b.length - at_ : Nat) : Int) - c by omega)]; exact ev_some (by rfl)
    · rw [if_neg (show ¬ n > ((b.length - at_ : Nat) : Int) - c by omega)]
      refine ev_pos (by omega) (ev_pos (by omega) (ev_pos (by omega) (ev_some ?_)))
      have e : (((at_ + c : Nat) : Int) + n).toNat = at_ + c + n.toNat := by omega
      rw [e, Int.toNat_natCast, List.drop_take, List.drop_drop]
      simp only [tripT]
      rw [show at_ + c + n.toNat - (at_ + c) = n.toNat by omega, show ((at_ + (c + n.toNat) : Nat) : Int) = ((at_ + c : Nat) : Int) + n by omega]
theorem spec_l14Text_ev (b : List Int) (at_ : Nat) (hl : b.length ≤ 1000000000) (ha : at_ ≤ b.length) (hb : ∀ x ∈ b, 0 ≤ x ∧ x ≤ 255) : Ev (fun k => spec_l14Text.f k b (at_ : Int) false) (match getTextM (b.drop at_) with | none => ((⟨#[]⟩ : ByteArray), (at_ : Int), true) | some (s, c) => (s, ((at_ + c : Nat) : Int), false)) := by
  unfold spec_l14Text.f
  have hu := spec_GetText_ev b at_ hl ha hb
  refine Ev.bind hu (ev_neg (by simp) ?_)
  cases getTextM (b.drop at_) with
  | none => exact ev_neg (by simp [tripT]) (ev_some rfl)
  | some p => obtain ⟨n, c⟩ := p; exact ev_pos rfl (ev_some rfl)
def readsM {β : Type} (g : List Int → Option (β × Nat)) : Nat → List Int → Option (List β × List Int)
  | 0, r => some ([], r)
  | n + 1, r => match g r with
    | none => none
    | some (x, c) => match readsM g n (r.drop c) with
      | none => none
      | some (xs, r2) => some (x :: xs, r2)
theorem readsM_len {β : Type} {g : List Int → Option (β × Nat)} (hg : ∀ r, (∀ x ∈ r, 0 ≤ x ∧ x ≤ 255) → ∀ x c, g r = some (x, c) → c ≤ r.length ∧ 1 ≤ c) : ∀ (n : Nat) (r : List Int), (∀ b ∈ r, 0 ≤ b ∧ b ≤ 255) → ∀ xs r2, readsM g n r = some (xs, r2) → xs.length = n ∧ n + r2.length ≤ r.length ∧ ∀ b ∈ r2, 0 ≤ b ∧ b ≤ 255
  | 0, r, hr, xs, r2, h => by
    simp only [readsM, Option.some.injEq, Prod.mk.injEq] at h
    obtain ⟨rfl, rfl⟩ := h
    exact ⟨rfl, by omega, hr⟩
  | n + 1, r, hb, xs, r2, h => by
    rw [readsM] at h
    cases hv : g r with
    | none => rw [hv] at h; cases h
    | some q =>
      obtain ⟨x, c⟩ := q
      rw [hv] at h
      simp only at h
      have ⟨e1, e2⟩ := hg r hb x c hv
      cases hr : readsM g n (r.drop c) with
      | none => rw [hr] at h; cases h
      | some p =>
        obtain ⟨xs1, r1⟩ := p
        rw [hr] at h
        simp only [Option.some.injEq, Prod.mk.injEq] at h
        obtain ⟨rfl, rfl⟩ := h
        have ⟨i1, i2, i3⟩ := readsM_len hg n (r.drop c) (fun b hm => hb b (List.mem_of_mem_drop hm)) xs1 r1 hr
        rw [List.length_drop] at i2
        exact ⟨by rw [List.length_cons, i1], by omega, i3⟩
theorem ev_reads {α β : Type} (b : List Int) (hb : ∀ x ∈ b, 0 ≤ x ∧ x ≤ 255) (g : List Int → Option (β × Nat)) (f : β → List Int) (sz : β → Nat) (hg : ∀ r, (∀ x ∈ r, 0 ≤ x ∧ x ≤ 255) → ∀ x c, g r = some (x, c) → c ≤ r.length ∧ r = f x ++ r.drop c ∧ sz x + 1 ≤ c)
    (pre : List Int) (n : Nat) (L : Nat → Nat → List β → Int → Option α) (bad : α) (K : List β → List Int → α)
    (base : ∀ a xs, a ≤ b.length → b = pre ++ xs.flatMap f ++ b.drop a → xs.length = n → xs.length + (xs.map sz).sum ≤ a → Ev (fun k => L k a xs (n : Int)) (K xs (b.drop a)))
    (fail : ∀ a xs (i : Nat), a ≤ b.length → i < n → xs.length = i → xs.length + (xs.map sz).sum ≤ a → g (b.drop a) = none → Ev (fun k => L k a xs (i : Int)) bad)
    (step : ∀ a xs (i : Nat) x c R, a ≤ b.length → i < n → xs.length = i → xs.length + (xs.map sz).sum ≤ a → a + c ≤ b.length → g (b.drop a) = some (x, c) → Ev (fun k => L k (a + c) (xs ++ [x]) ((i + 1 : Nat) : Int)) R → Ev (fun k => L k a xs (i : Int)) R) :
    ∀ (d i a : Nat) (xs : List β), i + d = n → xs.length = i → a ≤ b.length → b = pre ++ xs.flatMap f ++ b.drop a → xs.length + (xs.map sz).sum ≤ a →
      ∀ R, R = (match readsM g d (b.drop a) with | none => bad | some (ys, r) => K (xs ++ ys) r) → Ev (fun k => L k a xs (i : Int)) R := by
  intro d
  induction d with
  | zero =>
    intro i a xs hi hx ha hbb hs R hR
    simp only [readsM, List.append_nil] at hR
    rw [hR]
    have := base a xs ha hbb (by omega) hs
    rw [show i = n by omega]
    exact this
  | succ d ih =>
    intro i a xs hi hx ha hbb hs R hR
    rw [readsM] at hR
    have hbd : ∀ x ∈ b.drop a, 0 ≤ x ∧ x ≤ 255 := fun x hm => hb x (List.mem_of_mem_drop hm)
    cases hv : g (b.drop a) with
    | none => rw [hv] at hR; rw [hR]; exact fail a xs i ha (by omega) hx hs hv
    | some q =>
      obtain ⟨x, c⟩ := q
      rw [hv] at hR
      have ⟨e1, e2, e3⟩ := hg _ hbd x c hv
      rw [List.length_drop] at e1
      simp only [List.drop_drop] at hR e2
      refine step a xs i x c R ha (by omega) hx hs (by omega) hv (ih (i + 1) (a + c) (xs ++ [x]) (by omega) (by rw [List.length_append, List.length_singleton, hx]) (by omega) ?_ ?_ R ?_)
      · rw [List.flatMap_append, List.flatMap_cons, List.flatMap_nil, List.append_nil, ← List.append_assoc, List.append_assoc (pre ++ xs.flatMap f), ← e2]
        exact hbb
      · simp only [List.length_append, List.length_singleton, List.map_append, List.map_cons, List.map_nil, List.sum_append, List.sum_cons, List.sum_nil]
        omega
      · rw [hR]
        cases readsM g d (b.drop (a + c)) with
        | none => rfl
        | some w => obtain ⟨ys, r⟩ := w; simp only [List.append_assoc, List.cons_append, List.nil_append]
theorem text_g (r : List Int) (hr : ∀ x ∈ r, 0 ≤ x ∧ x ≤ 255) (x : ByteArray) (c : Nat) (h : getTextM r = some (x, c)) : c ≤ r.length ∧ r = txtM x ++ r.drop c ∧ x.size + 1 ≤ c := by
  have ⟨e1, e2, _⟩ := getTextM_exact hr h
  refine ⟨e1, e2, ?_⟩
  have l := congrArg List.length e2
  have u := uM_len x.size
  simp only [txtM, List.length_append, List.length_drop, bytesOf_length] at l
  omega
theorem num_g (r : List Int) (hr : ∀ x ∈ r, 0 ≤ x ∧ x ≤ 255) (x : Int) (c : Nat) (h : getUM r = some (x, c)) : c ≤ r.length ∧ r = uM x ++ r.drop c ∧ 0 + 1 ≤ c := by
  have ⟨_, _, e1, e2, _, e3⟩ := getUM_exact hr h
  exact ⟨e1, e3, by omega⟩
abbrev NodeR := Bool × List ByteArray × List ByteArray × List Int × Bool
def badN : NodeR := (false, [], [], [], false)
def finN (l : Bool) (ks vs : List ByteArray) (ids r : List Int) : NodeR := if r = [] ∧ nodeOkM l ks vs ids = true then (l, ks, vs, ids, true) else badN
def restN (l : Bool) (n : Nat) (ks : List ByteArray) (r : List Int) : NodeR :=
  if l = true then (match readsM getTextM n r with | none => badN | some (vs, r2) => finN l ks vs [] r2)
  else (match readsM getUM (n + 1) r with | none => badN | some (ids, r2) => finN l ks [] ids r2)
def getNM (b : List Int) : NodeR := match getUM b with
  | none => badN
  | some (leaf, c) => match getUM (b.drop c) with
    | none => badN
    | some (n, c2) => if leaf > 1 then badN else match readsM getTextM n.toNat (b.drop (c + c2)) with
      | none => badN
      | some (ks, r) => restN (leaf == 1) n.toNat ks r
theorem readsM_ex {β : Type} {g : List Int → Option (β × Nat)} {f : β → List Int} (hg : ∀ r, (∀ x ∈ r, 0 ≤ x ∧ x ≤ 255) → ∀ x c, g r = some (x, c) → r = f x ++ r.drop c) : ∀ (n : Nat) (r : List Int), (∀ b ∈ r, 0 ≤ b ∧ b ≤ 255) → ∀ xs r2, readsM g n r = some (xs, r2) → r = xs.flatMap f ++ r2
  | 0, r, hr, xs, r2, h => by
    simp only [readsM, Option.some.injEq, Prod.mk.injEq] at h
    obtain ⟨rfl, rfl⟩ := h
    rfl
  | n + 1, r, hb, xs, r2, h => by
    rw [readsM] at h
    cases hv : g r with
    | none => rw [hv] at h; cases h
    | some q =>
      obtain ⟨x, c⟩ := q
      rw [hv] at h
      simp only at h
      have e := hg r hb x c hv
      cases hr : readsM g n (r.drop c) with
      | none => rw [hr] at h; cases h
      | some p =>
        obtain ⟨xs1, r1⟩ := p
        rw [hr] at h
        simp only [Option.some.injEq, Prod.mk.injEq] at h
        obtain ⟨rfl, rfl⟩ := h
        have i1 := readsM_ex hg n (r.drop c) (fun b hm => hb b (List.mem_of_mem_drop hm)) xs1 r1 hr
        rw [List.flatMap_cons, List.append_assoc, ← i1]
        exact e
theorem finN_long (b : List Int) (h : (b.length : Int) > 240) (l : Bool) (ks vs : List ByteArray) (ids r : List Int) (e : b = nodeB l ks vs ids ++ r) : finN l ks vs ids r = badN := by
  unfold finN
  refine if_neg (fun q => ?_)
  rw [q.1, List.append_nil] at e
  have := q.2
  unfold nodeOkM at this
  simp only [Bool.and_eq_true, decide_eq_true_eq] at this
  have l2 := this.1.2
  rw [← e] at l2
  omega
theorem getNM_of (P : NodeR → Prop) (b : List Int) (hb : ∀ x ∈ b, 0 ≤ x ∧ x ≤ 255) (z : P badN) (fin : ∀ l ks vs ids r, b = nodeB l ks vs ids ++ r → P (finN l ks vs ids r)) : P (getNM b) := by
  unfold getNM
  cases h0 : getUM b with
  | none => exact z
  | some p =>
    obtain ⟨leaf, c⟩ := p
    have ⟨g0, g1, g2, g3, _, g4⟩ := getUM_exact hb h0
    simp only
    cases h1 : getUM (b.drop c) with
    | none => exact z
    | some p =>
      obtain ⟨n, c2⟩ := p
      have ⟨n0, n1, n2, n3, _, n4⟩ := getUM_exact (fun x hx => hb x (List.mem_of_mem_drop hx)) h1
      simp only
      by_cases hle : leaf > 1
      · rw [if_pos hle]; exact z
      rw [if_neg hle]
      have e1 : uM leaf = uM (if (leaf == 1) = true then 1 else 0) := by
        by_cases q : leaf = 1
        · rw [q]; rfl
        · rw [if_neg (by simpa using q), show leaf = 0 by omega]
      have pp : b = (uM (if (leaf == 1) = true then 1 else 0) ++ uM n) ++ b.drop (c + c2) := by
        rw [List.append_assoc, ← List.drop_drop, ← n4, ← e1]; exact g4
      cases hk : readsM getTextM n.toNat (b.drop (c + c2)) with
      | none => exact z
      | some p =>
        obtain ⟨ks, r⟩ := p
        simp only
        have hbd : ∀ x ∈ b.drop (c + c2), 0 ≤ x ∧ x ≤ 255 := fun x hx => hb x (List.mem_of_mem_drop hx)
        have ⟨k1, k2, k3⟩ := readsM_len (fun r hr x c h => ⟨(text_g r hr x c h).1, by have := (text_g r hr x c h).2.2; omega⟩) _ _ hbd _ _ hk
        have k4 := readsM_ex (fun r hr x c h => (text_g r hr x c h).2.1) _ _ hbd _ _ hk
        rw [k4, ← show ((ks.length : Nat) : Int) = n by omega] at pp
        unfold restN
        generalize (leaf == 1) = l at pp
        cases l with
        | true =>
          rw [if_pos rfl]
          cases hv : readsM getTextM n.toNat r with
          | none => exact z
          | some p =>
            obtain ⟨vs, r2⟩ := p
            have v4 := readsM_ex (fun r hr x c h => (text_g r hr x c h).2.1) _ _ k3 _ _ hv
            rw [v4] at pp
            refine fin _ _ _ _ _ ?_
            unfold nodeB
            simp only [if_pos] at pp ⊢
            rw [pp]
            simp only [List.append_assoc]
        | false =>
          rw [if_neg (by simp)]
          cases hv : readsM getUM (n.toNat + 1) r with
          | none => exact z
          | some p =>
            obtain ⟨ids, r2⟩ := p
            have v4 := readsM_ex (fun r hr x c h => (num_g r hr x c h).2.1) _ _ k3 _ _ hv
            rw [v4] at pp
            refine fin _ _ _ _ _ ?_
            unfold nodeB
            simp only [if_neg Bool.false_ne_true] at pp ⊢
            rw [pp]
            simp only [List.append_assoc]
theorem getNM_long (b : List Int) (hb : ∀ x ∈ b, 0 ≤ x ∧ x ≤ 255) (h : (b.length : Int) > 240) : getNM b = badN :=
  getNM_of (fun r => r = badN) b hb rfl (fun l ks vs ids r e => finN_long b h l ks vs ids r e)
theorem spec_GetNode_ev (b : List Int) (hl : b.length ≤ 1048576) (hb : ∀ x ∈ b, 0 ≤ x ∧ x ≤ 255) : Ev (fun k => spec_GetNode.f k b) (getNM b) := by
  have bad2 : ∀ (n i : Int) (a : Int) (l : Bool) (ks vs : List ByteArray) (ids : List Int), Ev (fun k => spec_GetNode.l2 k b n i b a true l ks vs ids) badN := by
    intro n i a l ks vs ids
    refine Ev.step (fun k => by rw [spec_GetNode.l2]) ?_
    exact ev_ite (fun _ => ev_pos rfl (ev_some rfl)) (fun _ => ev_pos rfl (ev_some rfl))
  have bad1 : ∀ (n i : Int) (a : Int) (l : Bool) (ks vs : List ByteArray), Ev (fun k => spec_GetNode.l1 k b n i b a true l ks vs) badN := fun n i a l ks vs => by
    have j : Ev (fun k => spec_GetNode.j4 k b n b a true l ks vs) badN := Ev.step (fun k => by rw [spec_GetNode.j4]) (bad2 ..)
    refine Ev.step (fun k => by rw [spec_GetNode.l1]) ?_
    exact ev_ite (fun _ => ev_pos rfl j) (fun _ => j)
  have bad0 : ∀ (n i : Int) (a : Int) (l : Bool) (ks : List ByteArray), Ev (fun k => spec_GetNode.l0 k b n i b a true l ks) badN := fun n i a l ks => by
    have j : Ev (fun k => spec_GetNode.j2 k b n b a true l ks) badN := Ev.step (fun k => by rw [spec_GetNode.j2]) (bad1 ..)
    refine Ev.step (fun k => by rw [spec_GetNode.l0]) ?_
    exact ev_ite (fun _ => ev_pos rfl j) (fun _ => j)
  have badj : ∀ (leaf n : Int) (a : Int), Ev (fun k => spec_GetNode.j0 k b leaf n b a true) badN := fun leaf n a => Ev.step (fun k => by rw [spec_GetNode.j0]) (bad0 ..)
  -- the end
  have fin : ∀ (a : Nat) (l : Bool) (ks vs : List ByteArray) (ids : List Int), a ≤ b.length → ks.length + (ks.map ByteArray.size).sum ≤ 1048576 → vs.length + (vs.map ByteArray.size).sum ≤ 1048576 → ids.length ≤ 1048576 →
      Ev (fun k => if (a : Int) = (b.length : Int) then ((spec_NodeOk.f k l ks vs ids).bind fun t => (if t = true then (some (l, ks, vs, ids, true)) else (some (false, ([] : List ByteArray), ([] : List ByteArray), ([] : List Int), false)))) else (some (false, ([] : List ByteArray), ([] : List ByteArray), ([] : List Int), false))) (finN l ks vs ids (b.drop a)) := by
    intro a l ks vs ids ha hk hv hi
    unfold finN
    refine ev_ite (fun h => ?_) (fun h => ?_)
    · have e : b.drop a = [] := List.drop_eq_nil_of_le (by omega)
      refine Ev.bind (spec_NodeOk_ev l ks vs ids hk hv hi) (ev_ite (fun h2 => ?_) (fun h2 => ?_))
      · rw [if_pos ⟨e, h2⟩]; exact ev_some rfl
      · rw [if_neg (fun q => h2 q.2)]; exact ev_some rfl
    · rw [if_neg (fun q => h (by
        have := congrArg List.length q.1
        rw [List.length_drop, List.length_nil] at this
        omega))]
      exact ev_some rfl
  have sz0 : ∀ ids : List Int, (ids.map fun _ => 0).sum = 0 := fun ids => by induction ids with
    | nil => rfl
    | cons x t ih => simp [ih]
  -- behind the keys
  have rest : ∀ (a n : Nat) (l : Bool) (ks : List ByteArray) (pre : List Int), a ≤ b.length → n ≤ 1048576 → b = pre ++ b.drop a → ks.length + (ks.map ByteArray.size).sum ≤ 1048576 → Ev (fun k => spec_GetNode.j2 k b (n : Int) b (a : Int) false l ks) (restN l n ks (b.drop a)) := by
    intro a n l ks pre ha hn hp hk
    refine Ev.step (fun k => by rw [spec_GetNode.j2]) ?_
    unfold restN
    cases l with
    | true =>
      rw [if_pos rfl]
      refine ev_reads b hb getTextM txtM ByteArray.size text_g pre n (fun k a vs i => spec_GetNode.l1 k b (n : Int) i b (a : Int) false true ks vs) badN (fun vs r => finN true ks vs [] r) ?_ ?_ ?_ n 0 a [] (by omega) rfl ha (by rw [List.flatMap_nil, List.append_nil]; exact hp) (Nat.zero_le _) _ (by generalize readsM _ _ _ = z; rcases z with _ | ⟨x, y⟩ <;> rfl)
      · intro a vs ha _ hl2 hs
        refine Ev.step (fun k => by rw [spec_GetNode.l1]) ?_
        refine ev_neg (by omega) ?_
        refine Ev.step (fun k => by rw [spec_GetNode.j4]) ?_
        refine Ev.step (fun k => by rw [spec_GetNode.l2]) ?_
        exact ev_pos (by omega) (ev_neg (by simp) (ev_pos rfl (fin a true ks vs [] ha hk (by omega) (Nat.zero_le _))))
      · intro a vs i ha hi hx hs hg
        have t := spec_l14Text_ev b a (by omega) ha hb
        rw [hg] at t
        refine Ev.step (fun k => by rw [spec_GetNode.l1]) ?_
        exact ev_pos (by omega) (ev_neg (by simp) (ev_pos rfl (Ev.bind t (ev_pos (by omega) (bad1 ..)))))
      · intro a vs i x c R ha hi hx hs hc hg ih
        have t := spec_l14Text_ev b a (by omega) ha hb
        rw [hg] at t
        refine Ev.step (fun k => by rw [spec_GetNode.l1]) ?_
        refine ev_pos (by omega) (ev_neg (by simp) (ev_pos rfl (Ev.bind t (ev_pos (by omega) ?_))))
        rw [wrap_succ (by omega)]
        exact ih
    | false =>
      rw [if_neg (by simp)]
      have l1 : ∀ R, Ev (fun k => spec_GetNode.l2 k b (n : Int) 0 b (a : Int) false false ks [] []) R → Ev (fun k => spec_GetNode.l1 k b (n : Int) 0 b (a : Int) false false ks []) R := fun R h => by
        have j : Ev (fun k => spec_GetNode.j4 k b (n : Int) b (a : Int) false false ks []) R := Ev.step (fun k => by rw [spec_GetNode.j4]) h
        refine Ev.step (fun k => by rw [spec_GetNode.l1]) ?_
        exact ev_ite (fun _ => ev_neg (by simp) (ev_neg (by simp) j)) (fun _ => j)
      refine l1 _ ?_
      refine ev_reads b hb getUM uM (fun _ => 0) num_g pre (n + 1) (fun k a ids i => spec_GetNode.l2 k b (n : Int) i b (a : Int) false false ks [] ids) badN (fun ids r => finN false ks [] ids r) ?_ ?_ ?_ (n + 1) 0 a [] (by omega) rfl ha (by rw [List.flatMap_nil, List.append_nil]; exact hp) (Nat.zero_le _) _ (by generalize readsM _ _ _ = z; rcases z with _ | ⟨x, y⟩ <;> rfl)
      · intro a ids ha _ hl2 hs
        rw [sz0] at hs
        refine Ev.step (fun k => by rw [spec_GetNode.l2]) ?_
        exact ev_neg (by omega) (ev_neg (by simp) (fin a false ks [] ids ha hk (Nat.zero_le _) (by omega)))
      · intro a ids i ha hi hx hs hg
        have t := spec_l14Num_ev b a false (by omega) (by omega) hb
        rw [if_neg (by simp), hg] at t
        refine Ev.step (fun k => by rw [spec_GetNode.l2]) ?_
        exact ev_pos (by omega) (ev_neg (by simp) (ev_neg (by simp) (Ev.bind t (ev_pos (by omega) (bad2 ..)))))
      · intro a ids i x c R ha hi hx hs hc hg ih
        have t := spec_l14Num_ev b a false (by omega) (by omega) hb
        rw [if_neg (by simp), hg] at t
        refine Ev.step (fun k => by rw [spec_GetNode.l2]) ?_
        refine ev_pos (by omega) (ev_neg (by simp) (ev_neg (by simp) (Ev.bind t (ev_pos (by omega) ?_))))
        rw [wrap_succ (by omega)]
        exact ih
  -- the whole
  unfold spec_GetNode.f
  have t0 := spec_l14Num_ev b 0 false (by omega) (by omega) hb
  rw [if_neg (by simp), List.drop_zero] at t0
  unfold getNM
  cases h0 : getUM b with
  | none =>
    rw [h0] at t0
    have t1 := spec_l14Num_ev b 0 true (by omega) (by omega) hb
    rw [if_pos rfl] at t1
    exact Ev.bind t0 (Ev.bind t1 (ev_pos rfl (badj ..)))
  | some p =>
    obtain ⟨leaf, c⟩ := p
    have ⟨g0, g1, g2, g3, _, g4⟩ := getUM_exact hb h0
    rw [h0] at t0
    simp only [Nat.zero_add] at t0 ⊢
    have t1 := spec_l14Num_ev b c false (by omega) (by omega) hb
    rw [if_neg (by simp)] at t1
    cases h1 : getUM (b.drop c) with
    | none =>
      rw [h1] at t1
      exact Ev.bind t0 (Ev.bind t1 (ev_pos rfl (badj ..)))
    | some p =>
      obtain ⟨n, c2⟩ := p
      have ⟨n0, n1, n2, n3, _, n4⟩ := getUM_exact (fun x hx => hb x (List.mem_of_mem_drop hx)) h1
      rw [List.length_drop] at n2
      rw [h1] at t1
      refine Ev.bind t0 (Ev.bind t1 (ev_neg (by simp) ?_))
      simp only
      refine ev_ite (fun h => by rw [if_pos h]; exact badj ..) (fun h => ?_)
      rw [if_neg h]
      by_cases hn : n > (b.length : Int)
      · rw [decide_eq_true hn]
        have e : readsM getTextM n.toNat (b.drop (c + c2)) = none := by
          cases hk : readsM getTextM n.toNat (b.drop (c + c2)) with
          | none => rfl
          | some p =>
            obtain ⟨ks, r⟩ := p
            have ⟨k1, k2, k3⟩ := readsM_len (fun r hr x c h => ⟨(text_g r hr x c h).1, by have := (text_g r hr x c h).2.2; omega⟩) _ _ (fun x hx => hb x (List.mem_of_mem_drop hx)) _ _ hk
            rw [List.length_drop] at k2
            omega
        rw [e]
        exact badj ..
      · rw [decide_eq_false hn]
        refine Ev.step (fun k => by rw [spec_GetNode.j0]) ?_
        have en : ((n.toNat : Nat) : Int) = n := by omega
        have pp : b = (uM leaf ++ uM n) ++ b.drop (c + c2) := by
          rw [List.append_assoc, ← List.drop_drop, ← n4]; exact g4
        refine ev_reads b hb getTextM txtM ByteArray.size text_g (uM leaf ++ uM n) n.toNat (fun k a ks i => spec_GetNode.l0 k b n i b (a : Int) false (leaf == 1) ks) badN (fun ks r => restN (leaf == 1) n.toNat ks r) ?_ ?_ ?_ n.toNat 0 (c + c2) [] (by omega) rfl (by omega) (by rw [List.flatMap_nil, List.append_nil]; exact pp) (Nat.zero_le _) _ (by generalize readsM _ _ _ = z; rcases z with _ | ⟨x, y⟩ <;> rfl)
        · intro a ks ha hb2 hl2 hs
          have r := rest a n.toNat (leaf == 1) ks _ ha (by omega) hb2 (by omega)
          rw [en] at r
          refine Ev.step (fun k => by rw [spec_GetNode.l0]) ?_
          exact ev_neg (by omega) r
        · intro a ks i ha hi hx hs hg
          have t := spec_l14Text_ev b a (by omega) ha hb
          rw [hg] at t
          have bb : Ev (fun k => spec_GetNode.j2 k b n b (a : Int) true (leaf == 1) (ks ++ [⟨#[]⟩])) badN := Ev.step (fun k => by rw [spec_GetNode.j2]) (bad1 ..)
          refine Ev.step (fun k => by rw [spec_GetNode.l0]) ?_
          exact ev_pos (by omega) (ev_neg (by simp) (Ev.bind t (ev_pos (by omega) (bad0 ..))))
        · intro a ks i x c R ha hi hx hs hc hg ih
          have t := spec_l14Text_ev b a (by omega) ha hb
          rw [hg] at t
          refine Ev.step (fun k => by rw [spec_GetNode.l0]) ?_
          refine ev_pos (by omega) (ev_neg (by simp) (Ev.bind t (ev_pos (by omega) ?_)))
          rw [wrap_succ (by omega)]
          exact ih
theorem impl_GetU_round (b : List Int) (at_ : Nat) (hl : b.length ≤ 1000000000) (ha : at_ ≤ 1000000000) (hb : ∀ x ∈ b, 0 ≤ x ∧ x ≤ 255) : ∀ (d i : Nat) (v : Int), i + d = 3 → 0 ≤ v → v < 128 ^ i → Ev (fun k => impl_GetU.l0 k b (at_ : Int) v (i : Int)) (tripU at_ (getUR d i v (b.drop (at_ + i)))) := by
  intro d
  induction d with
  | zero =>
    intro i v hi h0 h1
    refine Ev.step (fun k => by rw [impl_GetU.l0]) (ev_neg (by omega) (Ev.step (fun k => by rw [impl_GetU.j1]) (ev_neg (by simp) (ev_some (by rfl)))))
  | succ d ih =>
    intro i v hi h0 h1
    have H1 := Aside0.mk h1
    clear h1
    have w1 : wrap64 ((at_ : Int) + i) = ((at_ + i : Nat) : Int) := by rw [wrap_id (by omega) (by omega)]; omega
    refine Ev.step (fun k => by rw [impl_GetU.l0]) (ev_pos (by omega) (ev_pos (by omega) ?_))
    rw [wrap_id (x := (b.length : Int) - i) (by omega) (by omega)]
    by_cases c : at_ + i < b.length
    · refine Ev.step (fun k => by rw [impl_GetU.j1]) (ev_pos (by rw [decide_eq_true]; omega) ?_)
      rw [w1]
      have hx : b[at_ + i]? = some b[at_ + i] := List.getElem?_eq_getElem c
      have hd := List.drop_eq_getElem_cons c
      have hx0 := hb _ (List.getElem_mem c)
      generalize b[at_ + i] = x at hx hd hx0
      rw [hd, rd_at hx, wrap_id (x := x) (by omega) (by omega)]
      have w2 : wrap64 (7 * (i : Int)) = 7 * (i : Int) := wrap_id (by omega) (by omega)
      have w3 : wrap64 ((i : Int) + 1) = ((i + 1 : Nat) : Int) := wrap_succ (by omega)
      have w4 : wrap64 (((at_ + i : Nat) : Int) + 1) = ((at_ + (i + 1) : Nat) : Int) := by rw [wrap_id (by omega) (by omega)]; omega
      rw [w2, w3, w4, Int.tmod_eq_emod_of_nonneg (by omega), shl_at (x % 128) i (by omega) (by omega) (by omega)]
      have f1 : (0 : Int) ≤ ((at_ + i : Nat) : Int) := by omega
      have f2 : ((at_ + i : Nat) : Int) < (b.length : Int) := by omega
      have f3 : (0 : Int) ≤ 7 * (i : Int) := by omega
      have em : x > 127 → x % 128 = x - 128 := fun _ => by omega
      have el : ¬ x > 127 → x % 128 = x := fun _ => by omega
      have hi0 : (i : Int) > 0 ↔ i > 0 := by omega
      have g7 : x ≥ 128 ↔ x > 127 := by omega
      have i3 : i + 1 + d = 3 := by omega
      have BD := Aside0.mk (grp_bd i (by omega) (x % 128) v (by omega) (by omega) h0 H1.out)
      rw [wrap_id (x := v + x % 128 * 128 ^ i) (Int.le_trans (by decide) BD.out.1) (Int.le_trans BD.out.2.2.1 (by decide))]
      refine ev_pos f1 (ev_pos f2 (ev_pos f3 ?_))
      refine ev_ite (fun g => ?_) (fun g => ?_)
      · rw [getUR, if_pos (g7.1 g)]
        rw [em (g7.1 g)] at BD ⊢
        have := ih (i + 1) (v + (x - 128) * 128 ^ i) i3 BD.out.1 BD.out.2.1
        rwa [← Nat.add_assoc] at this
      · rw [getUR, if_neg (fun h => g (g7.2 h))]
        rw [el (fun h => g (g7.2 h))]
        refine ev_ite (fun g2 => ?_) (fun g2 => ?_)
        · refine ev_ite (fun g3 => ?_) (fun g3 => ?_)
          · rw [if_pos ⟨g2, hi0.1 g3⟩]; exact ev_some (by rfl)
          · rw [if_neg (show ¬ (x = 0 ∧ i > 0) from fun h => g3 (hi0.2 h.2))]
            refine ev_ite (fun g4 => ?_) (fun g4 => ?_)
            · rw [if_pos (show v + x * 128 ^ i > 1000000 from g4)]; exact ev_some (by rfl)
            · rw [if_neg (show ¬ v + x * 128 ^ i > 1000000 from g4)]; exact ev_some (by rfl)
        · rw [if_neg (show ¬ (x = 0 ∧ i > 0) from fun h => g2 h.1)]
          refine ev_ite (fun g4 => ?_) (fun g4 => ?_)
          · rw [if_pos (show v + x * 128 ^ i > 1000000 from g4)]; exact ev_some (by rfl)
          · rw [if_neg (show ¬ v + x * 128 ^ i > 1000000 from g4)]; exact ev_some (by rfl)
    · have hd : b.drop (at_ + i) = [] := List.drop_eq_nil_of_le (by omega)
      rw [hd, getUR]
      exact Ev.step (fun k => by rw [impl_GetU.j1]) (ev_neg (by rw [decide_eq_true_iff]; omega) (ev_some (by rfl)))
theorem impl_GetU_ev (b : List Int) (at_ : Nat) (hl : b.length ≤ 1000000000) (ha : at_ ≤ 1000000000) (hb : ∀ x ∈ b, 0 ≤ x ∧ x ≤ 255) : Ev (fun k => impl_GetU.f k b (at_ : Int)) (tripU at_ (getUM (b.drop at_))) := by
  unfold impl_GetU.f
  exact impl_GetU_round b at_ hl ha hb 3 0 0 (by omega) (by omega) (by simp)
theorem impl_GetText_ev (b : List Int) (at_ : Nat) (hl : b.length ≤ 1000000000) (ha : at_ ≤ b.length) (hb : ∀ x ∈ b, 0 ≤ x ∧ x ≤ 255) : Ev (fun k => impl_GetText.f k b (at_ : Int)) (tripT at_ (getTextM (b.drop at_))) := by
  have hbd : ∀ x ∈ b.drop at_, 0 ≤ x ∧ x ≤ 255 := fun x hx => hb x (List.mem_of_mem_drop hx)
  have hu := impl_GetU_ev b at_ hl (by omega) hb
  unfold impl_GetText.f getTextM
  cases hg : getUM (b.drop at_) with
  | none =>
    rw [hg] at hu
    have hu2 : Ev (fun k => impl_GetU.f k b (at_ : Int)) ((0, 0, false) : Int × Int × Bool) := hu
    exact Ev.bind hu2 (ev_neg (by simp) (ev_some (by rfl)))
  | some p =>
    obtain ⟨n, c⟩ := p
    have ⟨n0, n1, cl, c1, _, _⟩ := getUM_exact hbd hg
    rw [List.length_drop] at cl
    rw [hg] at hu
    have hu2 : Ev (fun k => impl_GetU.f k b (at_ : Int)) ((n, ((at_ + c : Nat) : Int), true) : Int × Int × Bool) := hu
    refine Ev.bind hu2 (ev_pos rfl ?_)
    dsimp only
    rw [wrap_id (x := (b.length : Int) - ((at_ + c : Nat) : Int)) (by omega) (by omega), wrap_id (x := ((at_ + c : Nat) : Int) + n) (by omega) (by omega), List.length_drop]
    refine ev_ite (fun g => ?_) (fun g => ?_)
    · rw [if_pos (show n > ((b.length - at_ : Nat) : Int) - c by omega)]; exact ev_some (by rfl)
    · rw [if_neg (show ¬ n > ((b.length - at_ : Nat) : Int) - c by omega)]
      refine ev_pos (by omega) (ev_pos (by omega) (ev_pos (by omega) (ev_some ?_)))
      have e : (((at_ + c : Nat) : Int) + n).toNat = at_ + c + n.toNat := by omega
      rw [e, Int.toNat_natCast, List.drop_take, List.drop_drop]
      simp only [tripT]
      rw [show at_ + c + n.toNat - (at_ + c) = n.toNat by omega, show ((at_ + (c + n.toNat) : Nat) : Int) = ((at_ + c : Nat) : Int) + n by omega]
theorem one_more (vs : List ByteArray) : (vs ++ [(⟨#[]⟩ : ByteArray)]).length + ((vs ++ [(⟨#[]⟩ : ByteArray)]).map ByteArray.size).sum = vs.length + 1 + (vs.map ByteArray.size).sum := by
  simp only [List.length_append, List.length_singleton, List.map_append, List.map_cons, List.map_nil, List.sum_append, List.sum_cons, List.sum_nil]
  show _ + 1 + (_ + (0 + 0)) = _
  omega
theorem impl_GetNode_ev (b : List Int) (hl : b.length ≤ 1048576) (hb : ∀ x ∈ b, 0 ≤ x ∧ x ≤ 255) : Ev (fun k => impl_GetNode.f k b) (getNM b) := by
  have bad2 : ∀ (n i : Int) (a : Int) (l : Bool) (ks vs : List ByteArray) (ids : List Int), ks.length + (ks.map ByteArray.size).sum ≤ 1048576 → vs.length + (vs.map ByteArray.size).sum ≤ 1048576 → ids.length ≤ 1048576 → Ev (fun k => impl_GetNode.l2 k b a false n i l ks vs ids) badN := fun n i a l ks vs ids hk hv hi =>
    Ev.step (fun k => by rw [impl_GetNode.l2]) (ev_neg (by simp) (Ev.bind (impl_PutNode_ev l ks vs ids hk hv hi) (ev_some rfl)))
  have bad1 : ∀ (n i : Int) (a : Int) (l : Bool) (ks vs : List ByteArray), ks.length + (ks.map ByteArray.size).sum ≤ 1048576 → vs.length + (vs.map ByteArray.size).sum ≤ 1048576 → Ev (fun k => impl_GetNode.l1 k b a false n i l ks vs) badN := fun n i a l ks vs hk hv => by
    have j : Ev (fun k => impl_GetNode.j4 k b a false n l ks vs) badN := Ev.step (fun k => by rw [impl_GetNode.j4]) (bad2 _ _ _ _ _ _ _ hk hv (Nat.zero_le _))
    refine Ev.step (fun k => by rw [impl_GetNode.l1]) ?_
    exact ev_neg (by simp) j
  have bad0 : ∀ (n i : Int) (a : Int) (l : Bool) (ks : List ByteArray), ks.length + (ks.map ByteArray.size).sum ≤ 1048576 → Ev (fun k => impl_GetNode.l0 k b a false n i l ks) badN := fun n i a l ks hk => by
    have j : Ev (fun k => impl_GetNode.j2 k b a false n l ks) badN := Ev.step (fun k => by rw [impl_GetNode.j2]) (bad1 _ _ _ _ _ _ hk (Nat.zero_le _))
    refine Ev.step (fun k => by rw [impl_GetNode.l0]) ?_
    exact ev_neg (by simp) j
  have badj : ∀ (leaf n : Int) (a : Int), Ev (fun k => impl_GetNode.j0 k b leaf a false n) badN := fun leaf n a => Ev.step (fun k => by rw [impl_GetNode.j0]) (bad0 _ _ _ _ _ (Nat.zero_le _))
  -- the end
  have fin : ∀ (n i a : Int) (l : Bool) (ks vs : List ByteArray) (ids r : List Int), b = nodeB l ks vs ids ++ r → (l = false → ¬ i ≤ n) → ks.length + (ks.map ByteArray.size).sum ≤ 1048576 → vs.length + (vs.map ByteArray.size).sum ≤ 1048576 → ids.length ≤ 1048576 →
      Ev (fun k => impl_GetNode.l2 k b a true n i l ks vs ids) (finN l ks vs ids r) := by
    intro n i a l ks vs ids r hbb hln hk hv hi
    have tail : Ev (fun k => (impl_PutNode.f k l ks vs ids).bind fun t => (if (t.length : Int) = 0 then (some (false, ([] : List ByteArray), ([] : List ByteArray), ([] : List Int), false)) else (if (strOfNums t).toList = (strOfNums b).toList then (some (l, ks, vs, ids, true)) else (some (false, ([] : List ByteArray), ([] : List ByteArray), ([] : List Int), false))))) (finN l ks vs ids r) := by
      refine Ev.bind (impl_PutNode_ev l ks vs ids hk hv hi) ?_
      have nb : ∀ x ∈ nodeB l ks vs ids, 0 ≤ x ∧ x ≤ 255 := fun x hx => hb x (by rw [hbb]; exact List.mem_append_left _ hx)
      have nl : 1 ≤ (nodeB l ks vs ids).length := by
        have u := uM_len (if l = true then 1 else 0)
        unfold nodeB
        cases l <;> simp at u ⊢ <;> omega
      unfold finN putNM
      by_cases ok : nodeOkM l ks vs ids = true
      · rw [if_pos ok]
        refine ev_neg (by omega) (ev_ite (fun h => ?_) (fun h => ?_))
        · have e := (strOf_eq nb hb).1 h
          have r0 : r = [] := by
            have l2 := congrArg List.length hbb
            have l3 := congrArg List.length e
            rw [List.length_append] at l2
            exact List.length_eq_zero_iff.1 (by omega)
          rw [if_pos (show r = [] ∧ nodeOkM l ks vs ids = true from ⟨r0, ok⟩)]
          exact ev_some rfl
        · rw [if_neg (fun q : r = [] ∧ nodeOkM l ks vs ids = true => h ((strOf_eq nb hb).2 (by rw [hbb, q.1, List.append_nil])))]
          exact ev_some rfl
      · rw [if_neg ok, if_neg (fun q : r = [] ∧ nodeOkM l ks vs ids = true => ok q.2)]
        exact ev_pos rfl (ev_some rfl)
    refine Ev.step (fun k => by rw [impl_GetNode.l2]) ?_
    refine ev_pos rfl ?_
    cases l with
    | true => exact ev_pos rfl tail
    | false => exact ev_neg (by simp) (ev_neg (hln rfl) tail)
  have sz0 : ∀ ids : List Int, (ids.map fun _ => 0).sum = 0 := fun ids => by induction ids with
    | nil => rfl
    | cons x t ih => simp [ih]
  -- behind the keys
  have rest : ∀ (a n : Nat) (l : Bool) (ks : List ByteArray), a ≤ b.length → n ≤ 240 → b.length ≤ 240 → ks.length = n → b = (uM (if l = true then 1 else 0) ++ uM n ++ ks.flatMap txtM) ++ b.drop a → ks.length + (ks.map ByteArray.size).sum ≤ 1000 → Ev (fun k => impl_GetNode.j2 k b (a : Int) true (n : Int) l ks) (restN l n ks (b.drop a)) := by
    intro a n l ks ha hn h240 hkn hp hk
    refine Ev.step (fun k => by rw [impl_GetNode.j2]) ?_
    unfold restN
    cases l with
    | true =>
      rw [if_pos rfl]
      refine ev_reads b hb getTextM txtM ByteArray.size text_g _ n (fun k a vs i => impl_GetNode.l1 k b (a : Int) true (n : Int) i true ks vs) badN (fun vs r => finN true ks vs [] r) ?_ ?_ ?_ n 0 a [] (by omega) rfl ha (by rw [List.flatMap_nil, List.append_nil]; exact hp) (Nat.zero_le _) _ (by generalize readsM _ _ _ = z; rcases z with _ | ⟨x, y⟩ <;> rfl)
      · intro a vs ha hb2 hl2 hs
        refine Ev.step (fun k => by rw [impl_GetNode.l1]) ?_
        refine ev_pos rfl (ev_pos rfl (ev_neg (by omega) ?_))
        refine Ev.step (fun k => by rw [impl_GetNode.j4]) ?_
        exact fin _ _ _ true ks vs [] _ (by rw [← hkn] at hb2; unfold nodeB; simp only [if_pos] at hb2 ⊢; exact hb2) (fun h => by cases h) (by omega) (by omega) (Nat.zero_le _)
      · intro a vs i ha hi hx hs hg
        have t := impl_GetText_ev b a (by omega) ha hb
        rw [hg] at t
        refine Ev.step (fun k => by rw [impl_GetNode.l1]) ?_
        refine ev_pos rfl (ev_pos rfl (ev_pos (by omega) (Ev.bind t (ev_pos (by omega) ?_))))
        exact bad1 _ _ _ _ _ _ (by omega) (by have := one_more vs; simp only [tripT] at this ⊢; omega)
      · intro a vs i x c R ha hi hx hs hc hg ih
        have t := impl_GetText_ev b a (by omega) ha hb
        rw [hg] at t
        refine Ev.step (fun k => by rw [impl_GetNode.l1]) ?_
        refine ev_pos rfl (ev_pos rfl (ev_pos (by omega) (Ev.bind t (ev_pos (by omega) ?_))))
        rw [wrap_succ (by omega)]
        exact ih
    | false =>
      rw [if_neg (by simp)]
      refine Ev.step (fun k => by rw [impl_GetNode.l1]) ?_
      refine ev_pos rfl (ev_neg (by simp) ?_)
      refine Ev.step (fun k => by rw [impl_GetNode.j4]) ?_
      refine ev_reads b hb getUM uM (fun _ => 0) num_g _ (n + 1) (fun k a ids i => impl_GetNode.l2 k b (a : Int) true (n : Int) i false ks [] ids) badN (fun ids r => finN false ks [] ids r) ?_ ?_ ?_ (n + 1) 0 a [] (by omega) rfl ha (by rw [List.flatMap_nil, List.append_nil]; exact hp) (Nat.zero_le _) _ (by generalize readsM _ _ _ = z; rcases z with _ | ⟨x, y⟩ <;> rfl)
      · intro a ids ha hb2 hl2 hs
        rw [sz0] at hs
        exact fin _ _ _ false ks [] ids _ (by rw [← hkn] at hb2; unfold nodeB; simp only [if_neg Bool.false_ne_true] at hb2 ⊢; exact hb2) (fun _ => by omega) (by omega) (Nat.zero_le _) (by omega)
      · intro a ids i ha hi hx hs hg
        have t := impl_GetU_ev b a (by omega) (by omega) hb
        rw [hg] at t
        rw [sz0] at hs
        refine Ev.step (fun k => by rw [impl_GetNode.l2]) ?_
        exact ev_pos rfl (ev_neg (by simp) (ev_pos (by omega) (Ev.bind t (ev_pos (by omega) (bad2 _ _ _ _ _ _ _ (by omega) (Nat.zero_le _) (by rw [List.length_append, List.length_singleton]; omega))))))
      · intro a ids i x c R ha hi hx hs hc hg ih
        have t := impl_GetU_ev b a (by omega) (by omega) hb
        rw [hg] at t
        refine Ev.step (fun k => by rw [impl_GetNode.l2]) ?_
        refine ev_pos rfl (ev_neg (by simp) (ev_pos (by omega) (Ev.bind t (ev_pos (by omega) ?_))))
        rw [wrap_succ (by omega)]
        exact ih
  -- the whole
  unfold impl_GetNode.f
  refine ev_ite (fun h => by rw [getNM_long b hb h]; exact ev_some rfl) (fun h240 => ?_)
  have t0 := impl_GetU_ev b 0 (by omega) (by omega) hb
  rw [List.drop_zero] at t0
  unfold getNM
  cases h0 : getUM b with
  | none =>
    rw [h0] at t0
    have t1 := impl_GetU_ev b 0 (by omega) (by omega) hb
    rw [List.drop_zero] at t1
    have t0' : Ev (fun k => impl_GetU.f k b 0) ((0, 0, false) : Int × Int × Bool) := t0
    rw [h0] at t1
    have t1' : Ev (fun k => impl_GetU.f k b 0) ((0, 0, false) : Int × Int × Bool) := t1
    exact Ev.bind t0' (Ev.bind t1' (ev_neg (by simp) (badj ..)))
  | some p =>
    obtain ⟨leaf, c⟩ := p
    have ⟨g0, g1, g2, g3, _, g4⟩ := getUM_exact hb h0
    rw [h0] at t0
    have t0' : Ev (fun k => impl_GetU.f k b 0) ((leaf, ((c : Nat) : Int), true) : Int × Int × Bool) := by rw [show (c : Nat) = 0 + c by omega]; exact t0
    have t1 := impl_GetU_ev b c (by omega) (by omega) hb
    simp only
    cases h1 : getUM (b.drop c) with
    | none =>
      rw [h1] at t1
      have t1' : Ev (fun k => impl_GetU.f k b (c : Int)) ((0, 0, false) : Int × Int × Bool) := t1
      exact Ev.bind t0' (Ev.bind t1' (ev_pos rfl (ev_neg (by simp) (badj ..))))
    | some p =>
      obtain ⟨n, c2⟩ := p
      have ⟨n0, n1, n2, n3, _, n4⟩ := getUM_exact (fun x hx => hb x (List.mem_of_mem_drop hx)) h1
      rw [List.length_drop] at n2
      rw [h1] at t1
      have t1' : Ev (fun k => impl_GetU.f k b (c : Int)) ((n, ((c + c2 : Nat) : Int), true) : Int × Int × Bool) := t1
      have hin : impl_in.f leaf 0 1 = some (inB leaf 0 1) := impl_in_eq ..
      refine Ev.bind t0' (Ev.bind t1' (ev_pos rfl (ev_pos rfl (Ev.bind (ev_c hin) ?_))))
      simp only
      refine ev_ite (fun hi => ?_) (fun hi => ?_)
      · have hi2 := (inB_iff.1 hi).2
        rw [if_neg (by omega)]
        by_cases hn : n ≤ 240
        · rw [decide_eq_true hn]
          refine Ev.step (fun k => by rw [impl_GetNode.j0]) ?_
          have en : ((n.toNat : Nat) : Int) = n := by omega
          have e1 : uM leaf = uM (if (leaf == 1) = true then 1 else 0) := by
            by_cases q : leaf = 1
            · rw [q]; rfl
            · rw [if_neg (by simpa using q), show leaf = 0 by omega]
          have pp : b = (uM (if (leaf == 1) = true then 1 else 0) ++ uM n) ++ b.drop (c + c2) := by
            rw [List.append_assoc, ← List.drop_drop, ← n4, ← e1]; exact g4
          refine ev_reads b hb getTextM txtM ByteArray.size text_g _ n.toNat (fun k a ks i => impl_GetNode.l0 k b (a : Int) true n i (leaf == 1) ks) badN (fun ks r => restN (leaf == 1) n.toNat ks r) ?_ ?_ ?_ n.toNat 0 (c + c2) [] (by omega) rfl (by omega) (by rw [List.flatMap_nil, List.append_nil]; exact pp) (Nat.zero_le _) _ (by generalize readsM _ _ _ = z; rcases z with _ | ⟨x, y⟩ <;> rfl)
          · intro a ks ha hb2 hl2 hs
            have r := rest a n.toNat (leaf == 1) ks ha (by omega) (by omega) hl2 (by rw [en]; exact hb2) (by omega)
            rw [en] at r
            refine Ev.step (fun k => by rw [impl_GetNode.l0]) ?_
            exact ev_pos rfl (ev_neg (by omega) r)
          · intro a ks i ha hi hx hs hg
            have t := impl_GetText_ev b a (by omega) ha hb
            rw [hg] at t
            refine Ev.step (fun k => by rw [impl_GetNode.l0]) ?_
            refine ev_pos rfl (ev_pos (by omega) (Ev.bind t (ev_pos (by omega) ?_)))
            exact bad0 _ _ _ _ _ (by have := one_more ks; simp only [tripT] at this ⊢; omega)
          · intro a ks i x c R ha hi hx hs hc hg ih
            have t := impl_GetText_ev b a (by omega) ha hb
            rw [hg] at t
            refine Ev.step (fun k => by rw [impl_GetNode.l0]) ?_
            refine ev_pos rfl (ev_pos (by omega) (Ev.bind t (ev_pos (by omega) ?_)))
            rw [wrap_succ (by omega)]
            exact ih
        · rw [decide_eq_false hn]
          have e : readsM getTextM n.toNat (b.drop (c + c2)) = none := by
            cases hk : readsM getTextM n.toNat (b.drop (c + c2)) with
            | none => rfl
            | some p =>
              obtain ⟨ks, r⟩ := p
              have ⟨k1, k2, k3⟩ := readsM_len (fun r hr x c h => ⟨(text_g r hr x c h).1, by have := (text_g r hr x c h).2.2; omega⟩) _ _ (fun x hx => hb x (List.mem_of_mem_drop hx)) _ _ hk
              rw [List.length_drop] at k2
              omega
          rw [e]
          exact badj ..
      · rw [if_pos (by
          by_cases q : leaf > 1
          · exact q
          · exact absurd (inB_iff.2 ⟨g0, by omega⟩) hi)]
        exact badj ..
theorem spec_l1New_loop (l : List Int) (hl : l.length ≤ 1048576) : ∀ (d i : Nat) (x : Int), i + d = min l.length 4000 → EvP (fun k => spec_l1New.l0 k l x (i : Int)) (fun r => r.1 = l ∧ r.2.1 = 0) := by
  intro d
  induction d with
  | zero =>
    intro i x hi
    refine EvP.step (fun k => by rw [spec_l1New.l0]) ?_
    refine EvP.ite (fun h => ?_) (fun h => ?_)
    · exact EvP.neg (by omega) (EvP.some_ ⟨rfl, rfl⟩)
    · exact EvP.some_ ⟨rfl, rfl⟩
  | succ d ih =>
    intro i x hi
    refine EvP.step (fun k => by rw [spec_l1New.l0]) ?_
    refine EvP.pos (by omega) (EvP.pos (by omega) (EvP.pos (by omega) ?_))
    rw [wrap_succ (by omega)]
    exact ih (i + 1) _ (by omega)
theorem spec_l1New_evp (l : List Int) (hl : l.length ≤ 1048576) : EvP (fun k => spec_l1New.f k l) (fun r => r.1 = l ∧ r.2.1 = 0) := by
  unfold spec_l1New.f
  exact spec_l1New_loop l hl (min l.length 4000) 0 _ (by omega)
theorem spec_l1Byte_evp (b : List Int) (i h : Int) (hi : inv b i) (hb : b.length ≤ 1048576) : EvP (fun _ => spec_l1Byte.f b i h) (fun r => 0 ≤ r.1 ∧ r.1 ≤ 255 ∧ inv b r.2.1) := by
  unfold spec_l1Byte.f
  unfold inv at *
  refine EvP.ite (fun g => ?_) (fun g => ?_)
  · refine EvP.pos hi.1 (EvP.some_ ⟨(and255 _).1, (and255 _).2, ?_⟩)
    dsimp only
    rw [wrap_id (by omega) (by omega)]
    omega
  · exact EvP.some_ ⟨(and255 _).1, (and255 _).2, hi⟩
theorem spec_l1Below_evp (b : List Int) (i h n : Int) (hi : inv b i) (hb : b.length ≤ 1048576) : EvP (fun _ => spec_l1Below.f b i h n) (fun r => 0 ≤ r.1 ∧ (0 < n → r.1 < n) ∧ inv b r.2.1) := by
  have md : ∀ x : Int, 0 ≤ x → ¬ n ≤ 0 → 0 ≤ Int.tmod x n ∧ (0 < n → Int.tmod x n < n) := by
    intro x hx hn
    rw [Int.tmod_eq_emod_of_nonneg hx]
    exact ⟨Int.emod_nonneg _ (by omega), fun h => Int.emod_lt_of_pos _ h⟩
  unfold spec_l1Below.f
  refine EvP.ite (fun g => EvP.some_ ⟨by simp, fun h => by omega, hi⟩) (fun g => ?_)
  refine EvP.ite (fun g2 => ?_) (fun g2 => ?_)
  · refine EvP.bind (spec_l1Byte_evp b i h hi hb) (fun r hr => ?_)
    have := md r.1 hr.1 g
    exact EvP.neg (by omega) (EvP.some_ ⟨this.1, this.2, hr.2.2⟩)
  · refine EvP.bind (spec_l1Byte_evp b i h hi hb) (fun r hr => ?_)
    refine EvP.bind (spec_l1Byte_evp b _ _ hr.2.2 hb) (fun s hs => ?_)
    refine EvP.bind (spec_l1Byte_evp b _ _ hs.2.2 hb) (fun t ht => ?_)
    have e : wrap64 (wrap64 (wrap64 (r.1 * 65536) + wrap64 (s.1 * 256)) + t.1) = r.1 * 65536 + s.1 * 256 + t.1 := by
      rw [wrap_id (x := r.1 * 65536) (by omega) (by omega), wrap_id (x := s.1 * 256) (by omega) (by omega), wrap_id (x := r.1 * 65536 + s.1 * 256) (by omega) (by omega), wrap_id (by omega) (by omega)]
    rw [e]
    have := md (r.1 * 65536 + s.1 * 256 + t.1) (by omega) g
    exact EvP.neg (by omega) (EvP.some_ ⟨this.1, this.2, ht.2.2⟩)
theorem spec_l1Once_evp (b : List Int) (i h n : Int) (hi : inv b i) (hb : b.length ≤ 1048576) : EvP (fun _ => spec_l1Once.f b i h n) (fun r => inv b r.2.1) := by
  unfold spec_l1Once.f
  exact EvP.bind (spec_l1Below_evp b i h n hi hb) (fun r hr => EvP.some_ hr.2.2)
theorem spec_l1Str_evp (b : List Int) (i h : Int) (l : List ByteArray) (hl : 0 < l.length) (hi : inv b i) (hb : b.length ≤ 1048576) : EvP (fun _ => spec_l1Str.f b i h l) (fun r => r.1 ∈ l ∧ inv b r.2.1) := by
  unfold spec_l1Str.f
  refine EvP.bind (spec_l1Below_evp b i h _ hi hb) (fun r hr => ?_)
  have h2 := hr.2.1 (by omega)
  refine EvP.pos hr.1 (EvP.pos h2 (EvP.some_ ⟨?_, hr.2.2⟩))
  have hx : l[r.1.toNat]? = some l[r.1.toNat] := List.getElem?_eq_getElem (by omega)
  have e : rdOf ByteArray.empty l r.1 = l[r.1.toNat] := by
    have h3 : rdOf ByteArray.empty l ((r.1.toNat : Nat) : Int) = l[r.1.toNat] := rdOf_at hx
    rwa [show ((r.1.toNat : Nat) : Int) = r.1 by omega] at h3
  dsimp only
  rw [e]
  exact List.getElem_mem _
def smallN (n : Nat) (ks vs : List ByteArray) (ids : List Int) : Prop := ks.length ≤ n ∧ (∀ x ∈ ks, x.size ≤ 100) ∧ vs.length ≤ n ∧ (∀ x ∈ vs, x.size ≤ 100) ∧ ids.length ≤ n
theorem sum_small (l : List ByteArray) (h : ∀ x ∈ l, x.size ≤ 100) : (l.map ByteArray.size).sum ≤ 100 * l.length := by
  induction l with
  | nil => simp
  | cons x r ih =>
    have h1 := h x List.mem_cons_self
    have h2 := ih (fun y hy => h y (List.mem_cons_of_mem _ hy))
    simp only [List.map_cons, List.sum_cons, List.length_cons]
    omega
theorem smallN_le {n m : Nat} {ks vs : List ByteArray} {ids : List Int} (h : smallN n ks vs ids) (hm : n ≤ m) : smallN m ks vs ids := ⟨by have := h.1; omega, h.2.1, by have := h.2.2.1; omega, h.2.2.2.1, by have := h.2.2.2.2; omega⟩
def drawN (b : List Int) (n : Nat) (r : Bool × List ByteArray × List ByteArray × List Int × Int × Int) : Prop := smallN n r.2.1 r.2.2.1 r.2.2.2.1 ∧ inv b r.2.2.2.2.1
theorem spec_l14Draw_l1 (b : List Int) (hb : b.length ≤ 1048576) (lf : Bool) (ks : List ByteArray) (hk : ks.length ≤ 6) (hks : ∀ x ∈ ks, x.size ≤ 100) : ∀ (d i : Nat) (ci h : Int) (vs : List ByteArray) (ids : List Int), i + d = ks.length + 1 → inv b ci → vs.length ≤ i → (∀ x ∈ vs, x.size ≤ 100) → ids.length ≤ i → EvP (fun k => spec_l14Draw.l1 k (i : Int) b ci h lf ks vs ids) (drawN b 7) := by
  intro d
  induction d with
  | zero =>
    intro i ci h vs ids hi hc hv hvs hd
    refine EvP.step (fun k => by rw [spec_l14Draw.l1]) (EvP.neg (by omega) (EvP.some_ ⟨⟨?_, hks, ?_, hvs, ?_⟩, hc⟩))
    · dsimp only; omega
    · dsimp only; omega
    · dsimp only; omega
  | succ d ih =>
    intro i ci h vs ids hi hc hv hvs hd
    refine EvP.step (fun k => by rw [spec_l14Draw.l1]) (EvP.pos (by omega) ?_)
    rw [wrap_succ (by omega)]
    refine EvP.ite (fun _ => ?_) (fun _ => ?_)
    · refine EvP.ite (fun _ => ?_) (fun _ => ?_)
      · refine EvP.bind (spec_l1Str_evp b ci h _ (by simp) hc hb) (fun r hr => EvP.pos (by omega) ?_)
        refine ih (i + 1) _ _ _ _ (by omega) hr.2 (by rw [List.length_append, List.length_singleton]; omega) ?_ (by omega)
        intro x hx
        rcases List.mem_append.1 hx with hx | hx
        · exact hvs x hx
        · rw [List.mem_singleton] at hx
          rw [hx]
          have := hr.1
          simp only [List.mem_cons, List.not_mem_nil, or_false] at this
          rcases this with e | e | e <;> rw [e] <;> decide
      · exact ih (i + 1) _ _ _ _ (by omega) hc (by omega) hvs (by omega)
    · refine EvP.bind (spec_l1Below_evp b ci h _ hc hb) (fun r hr => EvP.pos (by omega) ?_)
      exact ih (i + 1) _ _ _ _ (by omega) hr.2.2 (by omega) hvs (by rw [List.length_append, List.length_singleton]; omega)
theorem spec_l14Draw_l0 (b : List Int) (hb : b.length ≤ 1048576) (lf : Bool) (nm : List ByteArray) (hn : nm.length ≤ 6) (hnm : ∀ x ∈ nm, x.size ≤ 1) : ∀ (d i : Nat) (ci h : Int) (ks : List ByteArray), i + d = nm.length → inv b ci → ks.length ≤ i → (∀ x ∈ ks, x.size ≤ 100) → EvP (fun k => spec_l14Draw.l0 k nm (i : Int) b ci h lf ks) (drawN b 7) := by
  intro d
  induction d with
  | zero =>
    intro i ci h ks hi hc hk hks
    refine EvP.step (fun k => by rw [spec_l14Draw.l0]) (EvP.neg (by omega) ?_)
    exact spec_l14Draw_l1 b hb lf ks (by omega) hks (ks.length + 1) 0 ci h [] [] (by omega) hc (by simp) (by simp) (by simp)
  | succ d ih =>
    intro i ci h ks hi hc hk hks
    refine EvP.step (fun k => by rw [spec_l14Draw.l0]) (EvP.pos (by omega) ?_)
    rw [wrap_succ (by omega)]
    refine EvP.bind (spec_l1Once_evp b ci h 2 hc hb) (fun r hr => ?_)
    refine EvP.ite (fun _ => ?_) (fun _ => ?_)
    · have hx : nm[i]? = some nm[i] := List.getElem?_eq_getElem (by omega)
      have hx2 := hnm _ (List.mem_of_getElem? hx)
      refine EvP.pos (by omega) (EvP.bind (spec_l1Str_evp b _ _ _ (by simp) hr hb) (fun s hs => ?_))
      rw [show rdOf ByteArray.empty nm (i : Int) = nm[i] from rdOf_at hx]
      have hsz : s.1.size ≤ 50 := by
        have := hs.1
        simp only [List.mem_cons, List.not_mem_nil, or_false] at this
        rcases this with e | e | e <;> rw [e] <;> decide
      refine EvP.pos (by omega) (EvP.pos (by omega) ?_)
      refine ih (i + 1) _ _ _ (by omega) hs.2 (by rw [List.length_append, List.length_singleton]; omega) ?_
      intro x hx
      rcases List.mem_append.1 hx with hx | hx
      · exact hks x hx
      · rw [List.mem_singleton] at hx
        rw [hx, ByteArray.size_append]
        omega
    · exact ih (i + 1) _ _ _ (by omega) hr (by omega) hks
theorem spec_l14Draw_evp (b : List Int) (ci h : Int) (hc : inv b ci) (hb : b.length ≤ 1048576) : EvP (fun k => spec_l14Draw.f k b ci h) (drawN b 7) := by
  unfold spec_l14Draw.f
  refine EvP.bind (spec_l1Once_evp b ci h 2 hc hb) (fun r hr => ?_)
  refine spec_l14Draw_l0 b hb _ _ (by simp) ?_ 6 0 _ _ _ (by simp) hr (by simp) (by simp)
  intro x hx
  simp only [List.mem_cons, List.not_mem_nil, or_false] at hx
  rcases hx with e | e | e | e | e | e <;> rw [e] <;> decide
theorem spec_l1Int_evp (b : List Int) (i h : Int) (l : List Int) (hl : 0 < l.length) (hi : inv b i) (hb : b.length ≤ 1048576) : EvP (fun _ => spec_l1Int.f b i h l) (fun r => r.1 ∈ l ∧ inv b r.2.1) := by
  unfold spec_l1Int.f
  refine EvP.bind (spec_l1Below_evp b i h _ hi hb) (fun r hr => ?_)
  have h2 := hr.2.1 (by omega)
  refine EvP.pos hr.1 (EvP.pos h2 (EvP.some_ ⟨?_, hr.2.2⟩))
  have hx : l[r.1.toNat]? = some l[r.1.toNat] := List.getElem?_eq_getElem (by omega)
  have e : rd l r.1 = l[r.1.toNat] := by
    have h3 : rd l ((r.1.toNat : Nat) : Int) = l[r.1.toNat] := rd_at hx
    rwa [show ((r.1.toNat : Nat) : Int) = r.1 by omega] at h3
  dsimp only
  rw [e]
  exact List.getElem_mem _
theorem app_small {n : Nat} {l : List ByteArray} {x : ByteArray} (hl : l.length ≤ n) (h : ∀ y ∈ l, y.size ≤ 100) (hx : x.size ≤ 100) : (l ++ [x]).length ≤ n + 1 ∧ ∀ y ∈ l ++ [x], y.size ≤ 100 := by
  refine ⟨by rw [List.length_append, List.length_singleton]; omega, ?_⟩
  intro y hy
  rcases List.mem_append.1 hy with hy | hy
  · exact h y hy
  · rw [List.mem_singleton] at hy; rw [hy]; exact hx
theorem spec_l14Any_evp (b : List Int) (ci h : Int) (hc : inv b ci) (hb : b.length ≤ 1048576) : EvP (fun k => spec_l14Any.f k b ci h) (drawN b 8) := by
  unfold spec_l14Any.f
  refine EvP.bind (spec_l14Draw_evp b ci h hc hb) (fun r hr => ?_)
  have hr1 := hr.1
  refine EvP.bind (spec_l1Below_evp b _ _ 12 hr.2 hb) (fun s hs => ?_)
  have z : ∀ n : Nat, (strOfNums (List.replicate n 0)).size = n := fun n => by rw [strOfNums_size, List.length_replicate]
  refine EvP.ite (fun _ => EvP.some_ ⟨smallN_le hr1 (by omega), hs.2.2⟩) (fun _ => ?_)
  refine EvP.ite (fun _ => ?_) (fun _ => ?_)
  · refine EvP.pos (by omega) (EvP.bind (spec_l1Str_evp b _ _ _ (by simp) hs.2.2 hb) (fun t ht => ?_))
    have hsz : t.1.size ≤ 100 := by
      have := ht.1
      simp only [List.mem_cons, List.not_mem_nil, or_false] at this
      rcases this with e | e | e
      · rw [e]; decide
      · rw [e]; decide
      · rw [e, z]; omega
    have a := app_small hr1.1 hr1.2.1 hsz
    exact EvP.pos (by have := hr1.1; omega) (EvP.some_ ⟨⟨a.1, a.2, by have := hr1.2.2.1; dsimp only; omega, hr1.2.2.2.1, by have := hr1.2.2.2.2; dsimp only; omega⟩, ht.2⟩)
  · refine EvP.ite (fun _ => ?_) (fun _ => ?_)
    · refine EvP.pos (by omega) (EvP.bind (spec_l1Str_evp b _ _ _ (by simp) hs.2.2 hb) (fun t ht => ?_))
      have hsz : t.1.size ≤ 100 := by
        have := ht.1
        simp only [List.mem_cons, List.not_mem_nil, or_false] at this
        rcases this with e | e
        · rw [e]; decide
        · rw [e, z]; omega
      have a := app_small hr1.2.2.1 hr1.2.2.2.1 hsz
      exact EvP.pos (by have := hr1.2.2.1; omega) (EvP.some_ ⟨⟨by have := hr1.1; dsimp only; omega, hr1.2.1, a.1, a.2, by have := hr1.2.2.2.2; dsimp only; omega⟩, ht.2⟩)
    · refine EvP.ite (fun _ => ?_) (fun _ => EvP.some_ ⟨smallN_le hr1 (by omega), hs.2.2⟩)
      refine EvP.bind (spec_l1Int_evp b _ _ _ (by simp) hs.2.2 hb) (fun t ht => ?_)
      refine EvP.pos (by have := hr1.2.2.2.2; omega) (EvP.some_ ⟨⟨by have := hr1.1; dsimp only; omega, hr1.2.1, by have := hr1.2.2.1; dsimp only; omega, hr1.2.2.2.1, ?_⟩, ht.2⟩)
      have := hr1.2.2.2.2
      dsimp only
      rw [List.length_append, List.length_singleton]
      omega
theorem spec_DrawPutNode_evp (l : List Int) (hl : l.length ≤ 1048576) : EvP (fun k => spec_DrawPutNode.f k l) (fun r => smallN 8 r.2.1 r.2.2.1 r.2.2.2) := by
  unfold spec_DrawPutNode.f
  refine EvP.bind (spec_l1New_evp l hl) (fun r hr => ?_)
  rw [hr.1, hr.2]
  exact EvP.bind (spec_l14Any_evp l 0 _ ⟨Int.le_refl _, by omega⟩ hl) (fun s hs => EvP.some_ hs.1)
theorem spec_PutNode_ev (b : Bool) (ks vs : List ByteArray) (ids : List Int) (hk : ks.length + (ks.map ByteArray.size).sum ≤ 1048576) (hv : vs.length + (vs.map ByteArray.size).sum ≤ 1048576) (hi : ids.length ≤ 1048576) :
    Ev (fun k => spec_PutNode.f k b ks vs ids) (putNM b ks vs ids) := by
  unfold spec_PutNode.f putNM
  exact Ev.bind (spec_NodeOk_ev b ks vs ids hk hv hi) (ev_ite (fun h => by rw [if_pos h]; exact Ev.bind (spec_l14Put_ev b ks vs ids hk hv hi) (ev_some rfl)) (fun h => by rw [if_neg h]; exact ev_some rfl))
theorem spec_l1Bend_evp (b : List Int) (i h : Int) (l : List Int) (hi : inv b i) (hb : b.length ≤ 1048576) (hl : l.length ≤ 1000000) (hbl : ∀ x ∈ l, 0 ≤ x ∧ x ≤ 255) : EvP (fun _ => spec_l1Bend.f b i h l) (fun r => r.1.length ≤ 1000001 ∧ ∀ x ∈ r.1, 0 ≤ x ∧ x ≤ 255) := by
  unfold spec_l1Bend.f
  refine EvP.ite (fun _ => EvP.some_ ⟨by dsimp only; omega, hbl⟩) (fun g => ?_)
  refine EvP.bind (spec_l1Below_evp b i h 5 hi hb) (fun r hr => ?_)
  refine EvP.ite (fun _ => ?_) (fun _ => ?_)
  · refine EvP.bind (spec_l1Below_evp b _ _ (l.length : Int) hr.2.2 hb) (fun s hs => ?_)
    refine EvP.bind (spec_l1Int_evp b _ _ _ (by simp) hs.2.2 hb) (fun t ht => ?_)
    refine EvP.pos hs.1 (EvP.pos (hs.2.1 (by omega)) (EvP.some_ ⟨by dsimp only; rw [List.length_set]; omega, ?_⟩))
    intro x hx
    rcases List.mem_or_eq_of_mem_set hx with hx | hx
    · exact hbl x hx
    · rw [hx]; omega
  refine EvP.ite (fun _ => ?_) (fun _ => ?_)
  · refine EvP.pos (by omega) (EvP.some_ ⟨by dsimp only; rw [List.length_append, List.length_singleton]; omega, ?_⟩)
    intro x hx
    rcases List.mem_append.1 hx with hx | hx
    · exact hbl x hx
    · rw [List.mem_singleton] at hx; omega
  refine EvP.ite (fun _ => ?_) (fun _ => EvP.some_ ⟨by dsimp only; omega, hbl⟩)
  refine EvP.bind (spec_l1Below_evp b _ _ (l.length : Int) hr.2.2 hb) (fun s hs => ?_)
  refine EvP.pos hs.1 (EvP.pos (by have := hs.2.1 (by omega); omega) (EvP.some_ ⟨by dsimp only; rw [List.length_take]; omega, fun x hx => hbl x (List.mem_of_mem_take hx)⟩))
theorem finN_ok (b : List Int) (l : Bool) (ks vs : List ByteArray) (ids r : List Int) (e : b = nodeB l ks vs ids ++ r) : finN l ks vs ids r = badN ∨ (finN l ks vs ids r = (l, ks, vs, ids, true) ∧ b = nodeB l ks vs ids ∧ nodeOkM l ks vs ids = true) := by
  unfold finN
  by_cases h : r = [] ∧ nodeOkM l ks vs ids = true
  · rw [if_pos h]
    rw [h.1, List.append_nil] at e
    exact Or.inr ⟨rfl, e, h.2⟩
  · rw [if_neg h]; exact Or.inl rfl
theorem getNM_ok (b : List Int) (hb : ∀ x ∈ b, 0 ≤ x ∧ x ≤ 255) : getNM b = badN ∨ ∃ l ks vs ids, getNM b = (l, ks, vs, ids, true) ∧ b = nodeB l ks vs ids ∧ nodeOkM l ks vs ids = true :=
  getNM_of (fun q => q = badN ∨ ∃ l ks vs ids, q = (l, ks, vs, ids, true) ∧ b = nodeB l ks vs ids ∧ nodeOkM l ks vs ids = true) b hb (Or.inl rfl)
    (fun l ks vs ids r e => (finN_ok b l ks vs ids r e).elim Or.inl (fun h => Or.inr ⟨l, ks, vs, ids, h⟩))
theorem readsM_put {β : Type} {g : List Int → Option (β × Nat)} {f : β → List Int} : ∀ (xs : List β) (r : List Int), (∀ x ∈ xs, ∀ r, g (f x ++ r) = some (x, (f x).length)) → readsM g xs.length (xs.flatMap f ++ r) = some (xs, r)
  | [], r, _ => rfl
  | x :: xs, r, h => by
    rw [List.length_cons, readsM, List.flatMap_cons, List.append_assoc, h x List.mem_cons_self]
    simp only [List.drop_left]
    rw [readsM_put xs r (fun w hw => h w (List.mem_cons_of_mem _ hw))]
theorem flat_ge (ks : List ByteArray) : ks.length + (ks.map ByteArray.size).sum ≤ (ks.flatMap txtM).length := by
  induction ks with
  | nil => simp
  | cons x r ih =>
    have u := uM_len x.size
    simp only [List.flatMap_cons, List.length_append, List.length_cons, List.map_cons, List.sum_cons, txtM, bytesOf_length]
    omega
theorem flat_geI (ids : List Int) : ids.length ≤ (ids.flatMap uM).length := by
  induction ids with
  | nil => simp
  | cons x r ih =>
    have u := uM_len x
    simp only [List.flatMap_cons, List.length_append, List.length_cons]
    omega
theorem nodeOkM_of {l : Bool} {ks vs : List ByteArray} {ids : List Int} (h : nodeOkM l ks vs ids = true) : (nodeB l ks vs ids).length ≤ 240 ∧ ks.length + (ks.map ByteArray.size).sum ≤ 240 ∧ vs.length + (vs.map ByteArray.size).sum ≤ 240 ∧ ids.length ≤ 240 ∧ (l = true → vs.length = ks.length ∧ ids = []) ∧ (l = false → vs = [] ∧ ids.length = ks.length + 1 ∧ ∀ x ∈ ids, 2 ≤ x ∧ x ≤ 47) := by
  have k := flat_ge ks
  have v := flat_ge vs
  have i := flat_geI ids
  unfold nodeOkM at h
  simp only [Bool.and_eq_true, decide_eq_true_eq] at h
  obtain ⟨⟨_, h2⟩, h3⟩ := h
  have h2' : (nodeB l ks vs ids).length ≤ 240 := by omega
  refine ⟨h2', ?_⟩
  cases l with
  | true =>
    rw [if_pos rfl] at h3
    simp only [Bool.and_eq_true, decide_eq_true_eq] at h3
    obtain ⟨⟨⟨_, _⟩, e1⟩, e2⟩ := h3
    have e3 : ids = [] := List.length_eq_zero_iff.1 e2
    unfold nodeB at h2'
    simp only [if_pos, List.length_append] at h2'
    exact ⟨by omega, by omega, by omega, fun _ => ⟨e1, e3⟩, fun h => by cases h⟩
  | false =>
    rw [if_neg (by simp)] at h3
    simp only [Bool.and_eq_true, decide_eq_true_eq] at h3
    obtain ⟨⟨⟨e0, _⟩, e1⟩, e2⟩ := h3
    have e3 : vs = [] := List.length_eq_zero_iff.1 e2
    unfold nodeB at h2'
    simp only [if_neg Bool.false_ne_true, List.length_append] at h2'
    refine ⟨by omega, by rw [e3]; simp, by omega, fun h => by (cases h), fun _ => ⟨e3, by omega, fun x hx => ?_⟩⟩
    exact inB_iff.1 (List.all_eq_true.1 e0 x hx)
theorem mem_sum {l : List ByteArray} {x : ByteArray} (h : x ∈ l) : x.size ≤ (l.map ByteArray.size).sum := sum_mem (List.mem_map_of_mem h)
theorem getNM_put {l : Bool} {ks vs : List ByteArray} {ids : List Int} (h : nodeOkM l ks vs ids = true) : getNM (nodeB l ks vs ids) = (l, ks, vs, ids, true) := by
  obtain ⟨_, h2, h3, h4, h5, h6⟩ := nodeOkM_of h
  have fk := readsM_put (g := getTextM) (f := txtM) ks
  have kx : ∀ x ∈ ks, ∀ r, getTextM (txtM x ++ r) = some (x, (txtM x).length) := fun x hx r => getTextM_put x (by have := mem_sum hx; omega) r
  have vx : ∀ x ∈ vs, ∀ r, getTextM (txtM x ++ r) = some (x, (txtM x).length) := fun x hx r => getTextM_put x (by have := mem_sum hx; omega) r
  have bl : 0 ≤ (if l = true then 1 else 0 : Int) ∧ (if l = true then 1 else 0 : Int) ≤ 1 := by split <;> omega
  have lf : ((if l = true then 1 else 0 : Int) == 1) = l := by cases l <;> rfl
  have e : nodeB l ks vs ids = uM (if l = true then 1 else 0) ++ (uM ks.length ++ (ks.flatMap txtM ++ (if l = true then vs.flatMap txtM else ids.flatMap uM))) := by
    unfold nodeB
    cases l <;> simp only [if_pos, if_neg Bool.false_ne_true, List.append_assoc]
  have fin : finN l ks vs ids [] = (l, ks, vs, ids, true) := by unfold finN; rw [if_pos ⟨rfl, h⟩]
  unfold getNM
  rw [e, getUM_put _ (by omega) (by omega)]
  simp only [List.drop_left]
  rw [getUM_put _ (by omega) (by omega)]
  simp only
  rw [if_neg (by omega), ← List.drop_drop, List.drop_left, List.drop_left, Int.toNat_natCast, fk _ kx]
  simp only
  rw [lf]
  unfold restN
  cases l with
  | true =>
    obtain ⟨a1, a2⟩ := h5 rfl
    have := readsM_put (g := getTextM) (f := txtM) vs [] vx
    rw [List.append_nil, a1] at this
    rw [if_pos rfl, if_pos rfl, this]
    simp only
    subst a2
    exact fin
  | false =>
    obtain ⟨a1, a2, a3⟩ := h6 rfl
    have := readsM_put (g := getUM) (f := uM) ids [] (fun x hx r => getUM_put x (by have := a3 x hx; omega) (by have := a3 x hx; omega) r)
    rw [List.append_nil, a2] at this
    rw [if_neg (by simp), if_neg (by simp), this]
    simp only
    subst a1
    exact fin
theorem putNM_bytes (l : Bool) (ks vs : List ByteArray) (ids : List Int) : ∀ x ∈ nodeB l ks vs ids, 0 ≤ x ∧ x ≤ 255 := by
  have fl : ∀ {β : Type} (xs : List β) (f : β → List Int), (∀ x, ∀ b ∈ f x, 0 ≤ b ∧ b ≤ 255) → ∀ b ∈ xs.flatMap f, 0 ≤ b ∧ b ≤ 255 := fun xs f hf b hb => by
    obtain ⟨x, _, hx⟩ := List.mem_flatMap.1 hb
    exact hf x b hx
  have hd : ∀ x ∈ uM (if l = true then 1 else 0) ++ uM ks.length ++ ks.flatMap txtM, 0 ≤ x ∧ x ≤ 255 := app_bytes (app_bytes (uM_bytes _) (uM_bytes _)) (fl ks txtM txtM_bytes)
  unfold nodeB
  cases l with
  | true => rw [if_pos rfl]; exact app_bytes hd (fl vs txtM txtM_bytes)
  | false => rw [if_neg (by simp)]; exact app_bytes hd (fl ids uM uM_bytes)
theorem spec_DrawGetNode_evp (l : List Int) (hl : l.length ≤ 1048576) : EvP (fun k => spec_DrawGetNode.f k l) (fun r => r.length ≤ 1000001 ∧ ∀ x ∈ r, 0 ≤ x ∧ x ≤ 255) := by
  unfold spec_DrawGetNode.f
  refine EvP.bind (spec_l1New_evp l hl) (fun r hr => ?_)
  rw [hr.1, hr.2]
  refine EvP.bind (spec_l14Draw_evp l 0 _ ⟨Int.le_refl _, by omega⟩ hl) (fun s hs => ?_)
  have q1 := sum_small _ hs.1.2.1
  have q2 := sum_small _ hs.1.2.2.2.1
  have b1 := hs.1.1
  have b2 := hs.1.2.2.1
  have b3 := hs.1.2.2.2.2
  refine EvP.bind (P := fun a => a = putNM s.1 s.2.1 s.2.2.1 s.2.2.2.1) (EvP.ev (spec_PutNode_ev _ _ _ _ (by omega) (by omega) (by omega)) rfl) (fun t ht => ?_)
  refine EvP.bind (spec_l1Bend_evp l _ _ t hs.2 hl ?_ ?_) (fun u hu => EvP.some_ hu)
  · rw [ht]; unfold putNM; split
    · have := nodeB_len s.1 s.2.1 s.2.2.1 s.2.2.2.1; omega
    · simp
  · rw [ht]; unfold putNM; split
    · exact putNM_bytes _ _ _ _
    · intro x hx; cases hx
theorem laws_sameBytes_self (l : List Int) (hs : l.length ≤ 281474976710656) : Ev (fun k => laws_sameBytes.f k l l) true := by
  unfold laws_sameBytes.f
  refine ev_pos rfl ?_
  refine ev_pass (fun k i => laws_sameBytes.l0 k l l i) l true ?_ ?_
  · refine Ev.step (fun k => by rw [laws_sameBytes.l0]) ?_
    exact ev_neg (by omega) (ev_some rfl)
  · intro i x hi hx ih
    refine Ev.step (fun k => by rw [laws_sameBytes.l0]) ?_
    refine ev_pos (by omega) (ev_pos (by omega) (ev_pos (by omega) (ev_pos rfl ?_)))
    rw [wrap_succ (by omega)]
    exact ih
def sameT : List ByteArray → List ByteArray → Bool
  | x :: r, y :: s => if x.toList = y.toList then sameT r s else false
  | _, _ => true
def sameI : List Int → List Int → Bool
  | x :: r, y :: s => if x = y then sameI r s else false
  | _, _ => true
def sameTs (a b : List ByteArray) : Bool := if (a.length : Int) = (b.length : Int) then sameT a b else false
def sameIs (a b : List Int) : Bool := if (a.length : Int) = (b.length : Int) then sameI a b else false
def sameN (b : Bool) (ks vs : List ByteArray) (ids : List Int) (b2 : Bool) (ks2 vs2 : List ByteArray) (ids2 : List Int) : Bool :=
  if (b == b2) = true then (if sameTs ks ks2 = true then (if sameTs vs vs2 = true then sameIs ids ids2 else false) else false) else false
theorem impl_sameTexts_ev (a b : List ByteArray) (hl : a.length ≤ 1048576) : Ev (fun k => impl_sameTexts.f k a b) (sameTs a b) := by
  unfold impl_sameTexts.f sameTs
  refine ev_ite (fun h => ?_) (fun h => by rw [if_neg h]; exact ev_some rfl)
  rw [if_pos h]
  have g := ev_list0 (fun k i => impl_sameTexts.l0 k a b (a.length : Int) i) a (fun i r => sameT r (b.drop i)) ?_ ?_
  · rw [List.drop_zero] at g; exact g
  · refine Ev.step (fun k => by rw [impl_sameTexts.l0]) (ev_neg (by omega) (ev_some ?_))
    rw [sameT]
    simp
  · intro i x r hi hx hd ih
    have hb : i < b.length := by omega
    have hy : b[i]? = some b[i] := List.getElem?_eq_getElem hb
    rw [List.drop_eq_getElem_cons hb, sameT]
    generalize b[i] = y at hy
    refine Ev.step (fun k => by rw [impl_sameTexts.l0]) (ev_pos (by omega) (ev_pos (by omega) (ev_pos (by omega) (ev_pos (by omega) ?_))))
    rw [wrap_succ (by omega), show rdOf ByteArray.empty a (i : Int) = x from getD_at hx, show rdOf ByteArray.empty b (i : Int) = y from getD_at hy]
    refine ev_ite (fun h => by rw [if_pos h]; exact ih) (fun h => by rw [if_neg h]; exact ev_some rfl)
theorem impl_sameInts_ev (a b : List Int) (hl : a.length ≤ 1048576) : Ev (fun k => impl_sameInts.f k a b) (sameIs a b) := by
  unfold impl_sameInts.f sameIs
  refine ev_ite (fun h => ?_) (fun h => by rw [if_neg h]; exact ev_some rfl)
  rw [if_pos h]
  have g := ev_list0 (fun k i => impl_sameInts.l0 k a b (a.length : Int) i) a (fun i r => sameI r (b.drop i)) ?_ ?_
  · rw [List.drop_zero] at g; exact g
  · refine Ev.step (fun k => by rw [impl_sameInts.l0]) (ev_neg (by omega) (ev_some ?_))
    rw [sameI]
    simp
  · intro i x r hi hx hd ih
    have hb : i < b.length := by omega
    have hy : b[i]? = some b[i] := List.getElem?_eq_getElem hb
    rw [List.drop_eq_getElem_cons hb, sameI]
    generalize b[i] = y at hy
    refine Ev.step (fun k => by rw [impl_sameInts.l0]) (ev_pos (by omega) (ev_pos (by omega) (ev_pos (by omega) (ev_pos (by omega) ?_))))
    rw [wrap_succ (by omega), show rd a (i : Int) = x from getD_at hx, show rd b (i : Int) = y from getD_at hy]
    refine ev_ite (fun h => by rw [if_pos h]; exact ih) (fun h => by rw [if_neg h]; exact ev_some rfl)
theorem impl_SameNode_ev (b : Bool) (ks vs : List ByteArray) (ids : List Int) (b2 : Bool) (ks2 vs2 : List ByteArray) (ids2 : List Int) (h1 : ks.length ≤ 1048576) (h2 : vs.length ≤ 1048576) (h3 : ids.length ≤ 1048576) : Ev (fun k => impl_SameNode.f k b ks vs ids b2 ks2 vs2 ids2) (sameN b ks vs ids b2 ks2 vs2 ids2) := by
  unfold impl_SameNode.f sameN
  refine ev_ite (fun h => ?_) (fun h => by rw [if_neg h]; exact ev_some rfl)
  rw [if_pos h]
  refine Ev.bind (impl_sameTexts_ev ks ks2 h1) (ev_ite (fun g => ?_) (fun g => by rw [if_neg g]; exact ev_some rfl))
  rw [if_pos g]
  refine Ev.bind (impl_sameTexts_ev vs vs2 h2) (ev_ite (fun g2 => ?_) (fun g2 => by rw [if_neg g2]; exact ev_some rfl))
  rw [if_pos g2]
  exact Ev.bind (impl_sameInts_ev ids ids2 h3) (ev_some rfl)
theorem sameT_self (l : List ByteArray) : sameT l l = true := by
  induction l with
  | nil => rfl
  | cons x r ih => rw [sameT, if_pos rfl]; exact ih
theorem sameI_self (l : List Int) : sameI l l = true := by
  induction l with
  | nil => rfl
  | cons x r ih => rw [sameI, if_pos rfl]; exact ih
theorem sameN_self (b : Bool) (ks vs : List ByteArray) (ids : List Int) : sameN b ks vs ids b ks vs ids = true := by
  unfold sameN sameTs sameIs
  rw [if_pos (by simp), if_pos rfl, if_pos rfl, if_pos rfl, sameT_self, sameT_self, sameI_self]
  rfl
theorem FnNodes : ∀ (l0 : List Int), (l0.length * 1 ≤ 140737488351232 ∧ ∀ e0 ∈ l0, (0 ≤ e0 ∧ e0 ≤ 255)) → ∃ k, laws_FnNodes.f k l0 = some true := by
  intro l hl
  refine Ev.rounds ?_
  have e : EvP (fun k => laws_FnNodes.f k l) (fun r => r = true) := by
    unfold laws_FnNodes.f
    refine EvP.bind (P := fun a => a = decide ((l.length : Int) > 1048576)) (EvP.ev (ev_c rfl) rfl) (fun a ha => ?_)
    refine EvP.ite (fun _ => EvP.some_ rfl) (fun g => ?_)
    have hl2 : l.length ≤ 1048576 := by
      rw [ha, decide_eq_true_iff] at g
      omega
    refine EvP.bind (spec_DrawPutNode_evp l hl2) (fun d hs => ?_)
    obtain ⟨lf, ks, vs, ids⟩ := d
    dsimp only at hs ⊢
    have q1 := sum_small ks hs.2.1
    have q2 := sum_small vs hs.2.2.2.1
    have b1 := hs.1
    have b2 := hs.2.2.1
    have b3 := hs.2.2.2.2
    refine EvP.bind (P := fun a => a = putNM lf ks vs ids) (EvP.ev (impl_PutNode_ev lf ks vs ids (by omega) (by omega) (by omega)) rfl) (fun t ht => ?_)
    refine EvP.bind (spec_DrawGetNode_evp l hl2) (fun c hc => ?_)
    refine EvP.bind (P := fun a => a = getNM c) (EvP.ev (impl_GetNode_ev c (by omega) hc.2) rfl) (fun y hy => ?_)
    refine EvP.bind (P := fun a => a = getNM c) (EvP.ev (spec_GetNode_ev c (by omega) hc.2) rfl) (fun y2 hy2 => ?_)
    rw [hy, hy2]
    refine EvP.neg (by simp) ?_
    have last : EvP (fun k => laws_FnNodes.j0 k t false lf ks vs ids) (fun r => r = true) := by
      refine EvP.step (fun k => by rw [laws_FnNodes.j0]) (EvP.neg (by simp) ?_)
      refine EvP.bind (P := fun a => a = nodeOkM lf ks vs ids) (EvP.ev (spec_NodeOk_ev lf ks vs ids (by omega) (by omega) (by omega)) rfl) (fun ok hok => ?_)
      refine EvP.ite (fun g1 => ?_) (fun g1 => ?_)
      · rw [hok] at g1
        have et : t = nodeB lf ks vs ids := by rw [ht]; unfold putNM; rw [if_pos g1]
        have l240 := (nodeOkM_of g1).1
        rw [et]
        refine EvP.bind (P := fun a => a = getNM (nodeB lf ks vs ids)) (EvP.ev (impl_GetNode_ev _ (by omega) (putNM_bytes _ _ _ _)) rfl) (fun z hz => ?_)
        rw [hz, getNM_put g1]
        refine EvP.pos rfl ?_
        refine EvP.bind (P := fun a => a = sameN lf ks vs ids lf ks vs ids) (EvP.ev (impl_SameNode_ev lf ks vs ids lf ks vs ids (by omega) (by omega) (by omega)) rfl) (fun w hw => ?_)
        refine EvP.pos (by rw [hw, sameN_self]) ?_
        refine EvP.bind (P := fun a => a = nodeOkM lf ks vs ids) (EvP.ev (impl_NodeOk_ev lf ks vs ids (by omega) (by omega) (by omega)) rfl) (fun ok2 hok2 => ?_)
        refine EvP.pos (by rw [hok2, g1]) ?_
        refine EvP.bind (P := fun a => a = ((nodeB lf ks vs ids).length : Int)) (EvP.ev (impl_SizeOf_ev lf ks vs ids (by omega) (by omega) (by omega)) rfl) (fun n hn => ?_)
        exact EvP.pos hn.symm (EvP.some_ (decide_eq_true (by omega)))
      · rw [hok] at g1
        have et : t = [] := by rw [ht]; unfold putNM; rw [if_neg g1]
        rw [et]
        refine EvP.pos rfl ?_
        refine EvP.bind (P := fun a => a = nodeOkM lf ks vs ids) (EvP.ev (impl_NodeOk_ev lf ks vs ids (by omega) (by omega) (by omega)) rfl) (fun ok2 hok2 => EvP.some_ ?_)
        rw [hok2, Bool.eq_false_iff.2 g1]; rfl
    have sizes : EvP (fun k => (impl_SizeOf.f k lf ks vs ids).bind fun t540 => ((spec_SizeOf.f k lf ks vs ids).bind fun t541 => (laws_FnNodes.j0 k t (t540 != t541) lf ks vs ids))) (fun r => r = true) := by
      refine EvP.bind (P := fun a => a = ((nodeB lf ks vs ids).length : Int)) (EvP.ev (impl_SizeOf_ev lf ks vs ids (by omega) (by omega) (by omega)) rfl) (fun n hn => ?_)
      refine EvP.bind (P := fun a => a = ((nodeB lf ks vs ids).length : Int)) (EvP.ev (spec_SizeOf_ev lf ks vs ids (by omega) (by omega) (by omega)) rfl) (fun m hm => ?_)
      rw [hn, hm, show (((nodeB lf ks vs ids).length : Int) != ((nodeB lf ks vs ids).length : Int)) = false by simp]
      exact last
    rcases getNM_ok c hc.2 with h | ⟨l2, ks2, vs2, ids2, h, hcb, hok⟩
    · rw [h]
      exact EvP.neg (by simp [badN]) sizes
    · rw [h]
      obtain ⟨c1, c2, c3, c4, _, _⟩ := nodeOkM_of hok
      refine EvP.pos rfl ?_
      dsimp only
      refine EvP.bind (P := fun a => a = nodeOkM l2 ks2 vs2 ids2) (EvP.ev (impl_NodeOk_ev _ _ _ _ (by omega) (by omega) (by omega)) rfl) (fun ok2 hok2 => ?_)
      refine EvP.pos (by rw [hok2, hok]) ?_
      refine EvP.bind (P := fun a => a = putNM l2 ks2 vs2 ids2) (EvP.ev (impl_PutNode_ev _ _ _ _ (by omega) (by omega) (by omega)) rfl) (fun p hp => ?_)
      have ep : p = c := by rw [hp, hcb]; unfold putNM; rw [if_pos hok]
      rw [ep]
      refine EvP.bind (P := fun a => a = true) (EvP.ev (laws_sameBytes_self c (by omega)) rfl) (fun s hs2 => ?_)
      exact EvP.pos hs2 sizes
  obtain ⟨r, hr, rfl⟩ := e
  exact hr
end Go.Proofs.Ytllgmgpfdnofmaa.Pure
