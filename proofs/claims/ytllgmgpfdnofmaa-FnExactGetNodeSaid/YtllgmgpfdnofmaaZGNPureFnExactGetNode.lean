/- The law FnExactGetNode in plain words: what the printed functions answer, and that the two agree. Its conditions: the bounds that memory sets. -/
import Derived.Test.YtllgmgpfdnofmaaZGNPFnExactGetNodex14
import Derived.Test.YtllgmgpfdnofmaaZGNKit
import Derived.Test.YtllgmgpfdnofmaaZGNKitB
import Derived.Test.YtllgmgpfdnofmaaZGNKitD
namespace Go.Proofs.Ytllgmgpfdnofmaa.Pure
open Go.RowKit Go.Proofs.Ytllgmgpfdnofmaa.PFnExactGetNode Go.Proofs.YtllgmgpfdnofmaaW.PrintWords Go.Proofs.YtllgmgpfdnofmaaW.PrintLast Go.Proofs.YtllgmgpfdnofmaaW.PrintMore Go.Proofs.Ytllgmgpfdnofmaa.Kit Go.Proofs.Ytllgmgpfdnofmaa.KitB Go.Proofs.Ytllgmgpfdnofmaa.KitD

theorem laws_eqByteS_self (l : List Int) (hs : l.length ≤ 281474976710656) : Ev (fun k => laws_eqByteS.f k l l) true := by
  unfold laws_eqByteS.f
  refine ev_pos rfl ?_
  refine ev_pass (fun k i => laws_eqByteS.l0 k l l i) l true ?_ ?_
  · refine Ev.step (fun k => by rw [laws_eqByteS.l0]) ?_
    exact ev_neg (by omega) (ev_some rfl)
  · intro i x hi hx ih
    refine Ev.step (fun k => by rw [laws_eqByteS.l0]) ?_
    refine ev_pos (by omega) (ev_pos (by omega) (ev_pos (by omega) (ev_pos rfl ?_)))
    rw [wrap_succ (by omega)]
    exact ih

theorem laws_eqStringS_self (l : List ByteArray) (hs : l.length ≤ 281474976710656) : Ev (fun k => laws_eqStringS.f k l l) true := by
  unfold laws_eqStringS.f
  refine ev_pos rfl ?_
  refine ev_pass (fun k i => laws_eqStringS.l0 k l l i) l true ?_ ?_
  · refine Ev.step (fun k => by rw [laws_eqStringS.l0]) ?_
    exact ev_neg (by omega) (ev_some rfl)
  · intro i x hi hx ih
    refine Ev.step (fun k => by rw [laws_eqStringS.l0]) ?_
    refine ev_pos (by omega) (ev_pos (by omega) (ev_pos (by omega) (ev_pos rfl ?_)))
    rw [wrap_succ (by omega)]
    exact ih

theorem laws_eqIntS_self (l : List Int) (hs : l.length ≤ 281474976710656) : Ev (fun k => laws_eqIntS.f k l l) true := by
  unfold laws_eqIntS.f
  refine ev_pos rfl ?_
  refine ev_pass (fun k i => laws_eqIntS.l0 k l l i) l true ?_ ?_
  · refine Ev.step (fun k => by rw [laws_eqIntS.l0]) ?_
    exact ev_neg (by omega) (ev_some rfl)
  · intro i x hi hx ih
    refine Ev.step (fun k => by rw [laws_eqIntS.l0]) ?_
    refine ev_pos (by omega) (ev_pos (by omega) (ev_pos (by omega) (ev_pos rfl ?_)))
    rw [wrap_succ (by omega)]
    exact ih

theorem laws_eqNode_self (b : Bool) (ks vs : List ByteArray) (ids : List Int) (hk : ks.length ≤ 281474976710656) (hv : vs.length ≤ 281474976710656) (hi : ids.length ≤ 281474976710656) : Ev (fun k => laws_eqNode.f k b ks vs ids b ks vs ids) true := by
  unfold laws_eqNode.f
  refine ev_neg (by simp) ?_
  refine Ev.bind (laws_eqStringS_self ks hk) (ev_pos rfl ?_)
  refine Ev.bind (laws_eqStringS_self vs hv) (ev_pos rfl ?_)
  exact Ev.bind (laws_eqIntS_self ids hi) (ev_pos rfl (ev_some rfl))

/-- A mark's text: some text, always the same. -/
theorem laws_markText_all : ∀ (d : Nat) (n : Int) (s : ByteArray), n.toNat ≤ d → n ≤ 1000000000000 → s.size + d ≤ 4000000000000 → ∃ r, Ev (fun k => laws_markText.l0 k n s) r := by
  intro d
  induction d with
  | zero =>
    intro n s hn _ hs
    refine ⟨_, Ev.step (fun k => by rw [laws_markText.l0]) (ev_neg (by omega) (ev_pos (by omega) (ev_some rfl)))⟩
  | succ d ih =>
    intro n s hn hn2 hs
    by_cases h : n > 0
    · have e : (strOfNums [wrap64 (48 + Int.tmod n 10) % 256]).size = 1 := strOfNums_size _
      have q : Int.tdiv n 10 = n / 10 := Int.tdiv_eq_ediv_of_nonneg (by omega)
      have qw : wrap64 (n / 10) = n / 10 := wrap_id (by omega) (by omega)
      obtain ⟨r, hr⟩ := ih (n / 10) (strOfNums [wrap64 (48 + Int.tmod n 10) % 256] ++ s) (by omega) (by omega) (by rw [ByteArray.size_append, e]; omega)
      refine ⟨r, ?_⟩
      refine Ev.step (fun k => by rw [laws_markText.l0]) ?_
      refine ev_pos h ?_
      rw [q, qw]
      first
        | exact Ev.bind (ev_c rfl) (ev_pos (by omega) hr)
        | exact ev_pos (by omega) hr
        | (refine Ev.bind (ev_c rfl) ?_; refine ev_pos ?_ hr; omega)
    · exact ⟨_, Ev.step (fun k => by rw [laws_markText.l0]) (ev_neg h (ev_pos (by omega) (ev_some rfl)))⟩
theorem laws_markText_some (n : Int) (h0 : n ≤ 1000000000000) : ∃ r, Ev (fun k => laws_markText.f k n) r := by
  unfold laws_markText.f
  by_cases h : n ≤ 0
  · exact ⟨_, ev_pos h (ev_some rfl)⟩
  · obtain ⟨r, hr⟩ := laws_markText_all n.toNat n (⟨#[]⟩ : ByteArray) (Nat.le_refl _) h0 (by show 0 + _ ≤ _; omega)
    exact ⟨r, ev_neg h hr⟩
open Classical in
noncomputable def markT (n : Int) : ByteArray := if h : n ≤ 1000000000000 then Classical.choose (laws_markText_some n h) else ⟨#[]⟩
theorem laws_markText_ev (n : Int) (h0 : n ≤ 1000000000000) : Ev (fun k => laws_markText.f k n) (markT n) := by
  unfold markT
  rw [dif_pos h0]
  exact Classical.choose_spec (laws_markText_some n h0)

noncomputable def markStr (m : Int) : Nat → List ByteArray
  | 0 => []
  | n + 1 => markT m :: markStr (m + 1) n
theorem markStr_len : ∀ (n : Nat) (m : Int), (markStr m n).length = n
  | 0, _ => rfl
  | n + 1, m => by simp [markStr, markStr_len n]
theorem markStr_at : ∀ (n : Nat) (m : Int) (i : Nat), i < n → (markStr m n)[i]? = some (markT (m + i))
  | 0, _, _, h => by omega
  | n + 1, m, 0, _ => by simp [markStr]
  | n + 1, m, i + 1, h => by
    rw [markStr, List.getElem?_cons_succ, markStr_at n (m + 1) i (by omega)]
    rw [show m + 1 + (i : Int) = m + ((i + 1 : Nat) : Int) by omega]
theorem laws_markStringS_ev (l : List ByteArray) (m : Int) (h0 : 0 ≤ m) (h1 : m ≤ 10000000000) (hs : l.length ≤ 1000000000) : Ev (fun k => laws_markStringS.f k l m) (m + l.length, markStr m l.length) := by
  unfold laws_markStringS.f
  have h := ev_listI0 (fun k (s : List ByteArray × Int) i => laws_markStringS.l0 k s.1 s.2 i) l (fun s i => s.1.length = l.length ∧ s.2 = m + i) (fun s i r => (m + l.length, s.1.take i ++ markStr (m + i) r.length)) (l, m) (by simp) ?_ ?_
  · simpa using h
  · intro s ⟨hl, hm⟩
    refine Ev.step (fun k => by rw [laws_markStringS.l0]) ?_
    refine ev_neg (by omega) (ev_some ?_)
    rw [hm, ← hl, List.take_length]
    simp [markStr]
  · intro s i x r ⟨hl, hm⟩ hi hx hd ih
    refine Ev.step (fun k => by rw [laws_markStringS.l0]) ?_
    refine ev_pos (by omega) (Ev.bind (laws_markText_ev _ (by omega)) (ev_pos (by omega) ?_))
    rw [wrap_succ (by omega), wrap_id (x := s.2 + 1) (by omega) (by omega)]
    simp only [Int.toNat_natCast]
    refine ev_eq (ih (s.1.set i (markT s.2), s.2 + 1) ⟨by simpa using hl, by simp only; omega⟩) ?_
    rw [List.length_cons, markStr]
    congr 1
    rw [List.take_add_one, List.take_set_of_le (Nat.le_refl i), List.getElem?_set_self (by omega), hm]
    simp only [Option.toList_some, List.append_assoc, List.cons_append, List.nil_append]
    rw [show m + ((i + 1 : Nat) : Int) = m + (i : Int) + 1 by omega]

def markI (m : Int) : Nat → List Int
  | 0 => []
  | n + 1 => m :: markI (m + 1) n
theorem markI_len : ∀ (n : Nat) (m : Int), (markI m n).length = n
  | 0, _ => rfl
  | n + 1, m => by simp [markI, markI_len n]
theorem markI_at : ∀ (n : Nat) (m : Int) (i : Nat), i < n → (markI m n)[i]? = some (m + i)
  | 0, _, _, h => by omega
  | n + 1, m, 0, _ => by simp [markI]
  | n + 1, m, i + 1, h => by
    rw [markI, List.getElem?_cons_succ, markI_at n (m + 1) i (by omega)]
    rw [show m + 1 + (i : Int) = m + ((i + 1 : Nat) : Int) by omega]
theorem laws_markIntS_ev (l : List Int) (m : Int) (h0 : 0 ≤ m) (h1 : m ≤ 10000000000) (hs : l.length ≤ 1000000000) : Ev (fun k => laws_markIntS.f k l m) (m + l.length, markI m l.length) := by
  unfold laws_markIntS.f
  have h := ev_listI0 (fun k (s : List Int × Int) i => laws_markIntS.l0 k s.1 s.2 i) l (fun s i => s.1.length = l.length ∧ s.2 = m + i) (fun s i r => (m + l.length, s.1.take i ++ markI (m + i) r.length)) (l, m) (by simp) ?_ ?_
  · simpa using h
  · intro s ⟨hl, hm⟩
    refine Ev.step (fun k => by rw [laws_markIntS.l0]) ?_
    refine ev_neg (by omega) (ev_some ?_)
    rw [hm, ← hl, List.take_length]
    simp [markI]
  · intro s i x r ⟨hl, hm⟩ hi hx hd ih
    refine Ev.step (fun k => by rw [laws_markIntS.l0]) ?_
    refine ev_pos (by omega) (ev_pos (by omega) ?_)
    rw [wrap_succ (by omega), wrap_id (x := s.2 + 1) (by omega) (by omega)]
    simp only [Int.toNat_natCast]
    refine ev_eq (ih (s.1.set i s.2, s.2 + 1) ⟨by simpa using hl, by simp only; omega⟩) ?_
    rw [List.length_cons, markI]
    congr 1
    rw [List.take_add_one, List.take_set_of_le (Nat.le_refl i), List.getElem?_set_self (by omega), hm]
    simp only [Option.toList_some, List.append_assoc, List.cons_append, List.nil_append]
    rw [show m + ((i + 1 : Nat) : Int) = m + (i : Int) + 1 by omega]

theorem laws_markNode_ev (b : Bool) (ks vs : List ByteArray) (ids : List Int) (m : Int) (h0 : 0 ≤ m) (h1 : m ≤ 10) (hk : ks.length ≤ 1048576) (hv : vs.length ≤ 1048576) (hi : ids.length ≤ 1048576) :
    Ev (fun k => laws_markNode.f k b ks vs ids m) (m + ks.length + vs.length + ids.length, markStr m ks.length, markStr (m + ks.length) vs.length, markI (m + ks.length + vs.length) ids.length) := by
  unfold laws_markNode.f
  exact Ev.bind (laws_markStringS_ev ks m h0 (by omega) (by omega)) (Ev.bind (laws_markStringS_ev vs _ (by omega) (by omega) (by omega)) (Ev.bind (laws_markIntS_ev ids _ (by omega) (by omega) (by omega)) (ev_some rfl)))

def markB (m : Int) : Nat → List Int
  | 0 => []
  | n + 1 => (m % 256) :: markB (m + 1) n
theorem markB_len : ∀ (n : Nat) (m : Int), (markB m n).length = n
  | 0, _ => rfl
  | n + 1, m => by simp [markB, markB_len n]
theorem laws_markByteS_ev (l : List Int) (m : Int) (h0 : 0 ≤ m) (h1 : m ≤ 1000000000) (hs : l.length ≤ 1000000000) : Ev (fun k => laws_markByteS.f k l m) (m + l.length, markB m l.length) := by
  unfold laws_markByteS.f
  have h := ev_listI0 (fun k (s : List Int × Int) i => laws_markByteS.l0 k s.1 s.2 i) l (fun s i => s.1.length = l.length ∧ s.2 = m + i) (fun s i r => (m + l.length, s.1.take i ++ markB (m + i) r.length)) (l, m) (by simp) ?_ ?_
  · simpa using h
  · intro s ⟨hl, hm⟩
    refine Ev.step (fun k => by rw [laws_markByteS.l0]) ?_
    refine ev_neg (by omega) (ev_some ?_)
    rw [hm, ← hl, List.take_length]
    simp [markB]
  · intro s i x r ⟨hl, hm⟩ hi hx hd ih
    refine Ev.step (fun k => by rw [laws_markByteS.l0]) ?_
    refine ev_pos (by omega) (ev_pos (by omega) ?_)
    rw [wrap_succ (by omega), wrap_id (by omega) (by omega)]
    refine ev_eq (ih (s.1.set i (s.2 % 256), s.2 + 1) ⟨by simpa using hl, by simp only; omega⟩) ?_
    rw [List.length_cons, markB]
    congr 1
    rw [List.take_add_one, List.take_set_of_le (Nat.le_refl i), List.getElem?_set_self (by omega), hm]
    simp only [Option.toList_some, List.append_assoc, List.cons_append, List.nil_append]
    rw [show m + ((i + 1 : Nat) : Int) = m + (i : Int) + 1 by omega]

theorem spec_PutU_loop (s : List Int) (n : Int) (hs : s.length < 140737488355317) (h0 : 0 ≤ n) (h1 : n ≤ 1000000) : Ev (fun k => spec_PutU.l0 k n s) (s ++ groups n) := by
  refine ev_groups (fun k s n => spec_PutU.l0 k n s) ?_ ?_ s n hs h0 h1
  · intro s n r hs h0 h1 ih
    refine Ev.step (fun k => by rw [spec_PutU.l0]) ?_
    refine ev_pos h0 (ev_pos (by omega) ?_)
    rw [and127 n (by omega) (by omega), or128 _ (by omega) (by omega), show (n % 128 + 128) % 256 = n % 128 + 128 by omega]
    exact ih
  · intro s n hs h0 h1
    refine Ev.step (fun k => by rw [spec_PutU.l0]) ?_
    refine ev_neg (by omega) (ev_pos (by omega) (ev_some ?_))
    rw [show n % 256 = n by omega]
theorem spec_PutU_ev (l : List Int) (n : Int) (hs : l.length < 140737488355317) : Ev (fun k => spec_PutU.f k l n) (l ++ uM n) := by
  have hb := clampU_bd n
  unfold spec_PutU.f
  refine Ev.bind (ev_c rfl) (ev_pos (by simp; omega) (Ev.bind (ev_c rfl) ?_))
  simp only [List.nil_append]
  unfold uM
  refine ev_ite (fun h => ?_) (fun h => ?_)
  · have e : clampU n = 1000000 := by unfold clampU; rw [if_neg (by omega), if_pos h]
    rw [e]
    refine Ev.step (fun k => by rw [spec_PutU.j0]) (ev_neg (by omega) (Ev.step (fun k => by rw [spec_PutU.j1]) ?_))
    exact spec_PutU_loop _ _ hs (by omega) (by omega)
  · refine Ev.step (fun k => by rw [spec_PutU.j0]) (ev_ite (fun h2 => ?_) (fun h2 => ?_))
    · have e : clampU n = 0 := by unfold clampU; rw [if_pos h2]
      rw [e]
      exact Ev.step (fun k => by rw [spec_PutU.j1]) (spec_PutU_loop _ _ hs (by omega) (by omega))
    · have e : clampU n = n := by unfold clampU; rw [if_neg h2, if_neg h]
      rw [e]
      exact Ev.step (fun k => by rw [spec_PutU.j1]) (spec_PutU_loop _ _ hs (by omega) (by omega))

theorem spec_PutText_ev (l : List Int) (s : ByteArray) (hs : l.length + s.size < 140737488355310) : Ev (fun k => spec_PutText.f k l s) (l ++ uM s.size ++ bytesOf s) := by
  have hb := uM_len s.size
  unfold spec_PutText.f
  refine Ev.bind (spec_PutU_ev l _ (by omega)) (ev_pos (by simp only [List.length_append]; omega) (ev_some rfl))

theorem spec_l14Put_ev (b : Bool) (ks vs : List ByteArray) (ids : List Int) (hk : ks.length + (ks.map ByteArray.size).sum ≤ 1048576) (hv : vs.length + (vs.map ByteArray.size).sum ≤ 1048576) (hi : ids.length ≤ 1048576) :
    Ev (fun k => spec_l14Put.f k b ks vs ids) (nodeB b ks vs ids) := by
  have s1 := sum_le3 ks txtM ByteArray.size txtM_len
  have s2 := sum_le3 vs txtM ByteArray.size txtM_len
  have s3 := sum_uM ids
  have txt : ∀ (s : List Int) (x : ByteArray), s.length + (txtM x).length ≤ 1000000000 → Ev (fun k => spec_PutText.f k s x) (s ++ txtM x) := by
    intro s x h
    have e : (txtM x).length = (uM x.size).length + x.size := by unfold txtM; rw [List.length_append, bytesOf_length]
    unfold txtM
    rw [← List.append_assoc]
    exact spec_PutText_ev s x (by omega)
  have kids : ∀ s, b = false → s.length + (ids.map fun x => (uM x).length).sum ≤ 1000000000 → Ev (fun k => spec_l14Put.l2 k s 0 b ks vs ids) (s ++ ids.flatMap uM) := by
    intro s hb hs
    subst hb
    refine ev_flat (fun k s i => spec_l14Put.l2 k s i false ks vs ids) ids uM (fun s => s) 1000000000 ?_ ?_ s hs
    · intro s _
      refine Ev.step (fun k => by rw [spec_l14Put.l2]) (ev_neg (by omega) (ev_some rfl))
    · intro s i x r hB hi' hx ih
      refine Ev.step (fun k => by rw [spec_l14Put.l2]) (ev_pos (by omega) (ev_neg (by simp) (ev_pos (by omega) ?_)))
      rw [show rd ids (i : Int) = x from getD_at hx, wrap_succ (by omega)]
      exact Ev.bind (spec_PutU_ev s x (by omega)) ih
  have j3 : ∀ s, s.length + (ids.map fun x => (uM x).length).sum ≤ 1000000000 → Ev (fun k => spec_l14Put.j3 k s b ks vs ids) (if b = true then s else s ++ ids.flatMap uM) := by
    intro s hs
    refine Ev.step (fun k => by rw [spec_l14Put.j3]) ?_
    cases b with
    | false => exact kids s rfl hs
    | true =>
      refine Ev.step (fun k => by rw [spec_l14Put.l2]) ?_
      refine ev_ite (fun _ => ?_) (fun _ => ?_)
      · exact ev_pos rfl (ev_some rfl)
      · exact ev_some rfl
  have vals : ∀ s, s.length + (vs.map fun x => (txtM x).length).sum + (ids.map fun x => (uM x).length).sum ≤ 1000000000 → Ev (fun k => spec_l14Put.l1 k s 0 b ks vs ids) (if b = true then s ++ vs.flatMap txtM else s ++ ids.flatMap uM) := by
    intro s hs
    cases b with
    | false =>
      refine Ev.step (fun k => by rw [spec_l14Put.l1]) ?_
      refine ev_ite (fun _ => ?_) (fun _ => ?_)
      · exact ev_neg (by simp) (j3 s (by omega))
      · exact j3 s (by omega)
    | true =>
      refine ev_flat (fun k s i => spec_l14Put.l1 k s i true ks vs ids) vs txtM (fun s => s) (1000000000 - (ids.map fun x => (uM x).length).sum) ?_ ?_ s (by omega)
      · intro s hs2
        refine Ev.step (fun k => by rw [spec_l14Put.l1]) (ev_neg (by omega) (j3 s (by omega)))
      · intro s i x r hB hi' hx ih
        refine Ev.step (fun k => by rw [spec_l14Put.l1]) (ev_pos (by omega) (ev_pos rfl (ev_pos (by omega) ?_)))
        rw [show rdOf ByteArray.empty vs (i : Int) = x from getD_at hx, wrap_succ (by omega)]
        exact Ev.bind (txt s x (by omega)) ih
  have keys : ∀ s, s.length + (ks.map fun x => (txtM x).length).sum + (vs.map fun x => (txtM x).length).sum + (ids.map fun x => (uM x).length).sum ≤ 1000000000 → Ev (fun k => spec_l14Put.l0 k s 0 b ks vs ids) (if b = true then (s ++ ks.flatMap txtM) ++ vs.flatMap txtM else (s ++ ks.flatMap txtM) ++ ids.flatMap uM) := by
    intro s hs
    refine ev_flat (fun k s i => spec_l14Put.l0 k s i b ks vs ids) ks txtM (fun s => if b = true then s ++ vs.flatMap txtM else s ++ ids.flatMap uM) (1000000000 - (vs.map fun x => (txtM x).length).sum - (ids.map fun x => (uM x).length).sum) ?_ ?_ s (by omega)
    · intro s hs2
      refine Ev.step (fun k => by rw [spec_l14Put.l0]) (ev_neg (by omega) (vals s (by omega)))
    · intro s i x r hB hi' hx ih
      refine Ev.step (fun k => by rw [spec_l14Put.l0]) (ev_pos (by omega) (ev_pos (by omega) ?_))
      rw [show rdOf ByteArray.empty ks (i : Int) = x from getD_at hx, wrap_succ (by omega)]
      exact Ev.bind (txt s x (by omega)) ih
  have head : ∀ n : Int, Ev (fun k => spec_l14Put.j0 k n b ks vs ids) (if b = true then (uM n ++ uM ks.length ++ ks.flatMap txtM) ++ vs.flatMap txtM else (uM n ++ uM ks.length ++ ks.flatMap txtM) ++ ids.flatMap uM) := by
    intro n
    have h1 := uM_len n
    have h2 := uM_len ks.length
    refine Ev.step (fun k => by rw [spec_l14Put.j0]) ?_
    refine Ev.bind (spec_PutU_ev [] n (by simp)) ?_
    rw [List.nil_append]
    exact Ev.bind (spec_PutU_ev _ _ (by omega)) (keys _ (by rw [List.length_append]; omega))
  unfold spec_l14Put.f nodeB
  refine ev_ite (fun h => ?_) (fun h => ?_)
  · have z := head 1
    simp only [if_pos h] at z ⊢
    exact z
  · have z := head 0
    simp only [if_neg h] at z ⊢
    exact z

theorem spec_SizeOf_ev (b : Bool) (ks vs : List ByteArray) (ids : List Int) (hk : ks.length + (ks.map ByteArray.size).sum ≤ 1048576) (hv : vs.length + (vs.map ByteArray.size).sum ≤ 1048576) (hi : ids.length ≤ 1048576) :
    Ev (fun k => spec_SizeOf.f k b ks vs ids) ((nodeB b ks vs ids).length : Int) := by
  unfold spec_SizeOf.f
  exact Ev.bind (spec_l14Put_ev b ks vs ids hk hv hi) (ev_some rfl)

theorem spec_l14Rising_ev (ks : List ByteArray) (hk : ks.length ≤ 1048576) : Ev (fun k => spec_l14Rising.f k ks) (risingM none ks) := by
  have h := ev_listI0 (fun k (_ : Unit) i => spec_l14Rising.l0 k ks i) ks (fun _ _ => True) (fun _ i r => risingM (if i = 0 then none else ks[i - 1]?) r) () trivial ?_ ?_
  · exact h
  · intro s hI
    refine Ev.step (fun k => by rw [spec_l14Rising.l0]) ?_
    exact ev_neg (by omega) (ev_some rfl)
  · intro s i x r hI hi hx hd ih
    have ih := ih () trivial
    rw [if_neg (by omega), show i + 1 - 1 = i by omega, hx] at ih
    refine Ev.step (fun k => by rw [spec_l14Rising.l0]) ?_
    refine ev_pos (by omega) (ev_pos (by omega) ?_)
    rw [wrap_succ (by omega), show rdOf ByteArray.empty ks (i : Int) = x from getD_at hx]
    unfold risingM
    refine ev_ite (fun c => by rw [if_pos c]; exact ev_some rfl) (fun c => ?_)
    rw [if_neg c]
    by_cases h0 : i = 0
    · subst h0
      exact ev_neg (by omega) ih
    · obtain ⟨y, hy⟩ : ∃ y, ks[i - 1]? = some y := ⟨_, List.getElem?_eq_getElem (by omega)⟩
      rw [if_neg h0, hy]
      have e : wrap64 ((i : Int) - 1) = ((i - 1 : Nat) : Int) := by rw [wrap_id (by omega) (by omega)]; omega
      refine ev_pos (by omega) ?_
      rw [e]
      refine ev_pos (by omega) (ev_pos (by omega) ?_)
      rw [show rdOf ByteArray.empty ks ((i - 1 : Nat) : Int) = y from getD_at hy]
      exact ev_ite (fun c => by simp only [if_pos c]; exact ih) (fun c => by simp only [if_neg c]; exact ev_some rfl)

theorem spec_l1In_eq (a b c : Int) : spec_l1In.f a b c = some (inB a b c) := by unfold spec_l1In.f inB; split <;> rfl

theorem spec_NodeOk_ev (b : Bool) (ks vs : List ByteArray) (ids : List Int) (hk : ks.length + (ks.map ByteArray.size).sum ≤ 1048576) (hv : vs.length + (vs.map ByteArray.size).sum ≤ 1048576) (hi : ids.length ≤ 1048576) :
    Ev (fun k => spec_NodeOk.f k b ks vs ids) (nodeOkM b ks vs ids) := by
  have l0 : Ev (fun k => spec_NodeOk.l0 k 0 b ks vs ids) (vs.all (fun v => decide ((v.size : Int) ≤ 60)) && decide (1 ≤ ks.length) && decide (vs.length = ks.length) && decide (ids.length = 0)) := by
    have h := ev_all (fun k i => spec_NodeOk.l0 k i b ks vs ids) vs (fun v => decide ((v.size : Int) ≤ 60)) (decide (1 ≤ ks.length) && decide (vs.length = ks.length) && decide (ids.length = 0)) ?_ ?_
    · refine ev_eq h ?_
      by_cases c : vs.all (fun v => decide ((v.size : Int) ≤ 60)) = true
      · rw [if_pos c, c, Bool.true_and]
      · rw [if_neg c, Bool.eq_false_iff.2 c, Bool.false_and, Bool.false_and, Bool.false_and]
    · refine Ev.step (fun k => by rw [spec_NodeOk.l0]) (ev_neg (by omega) ?_)
      refine ev_ite (fun c => ?_) (fun c => ev_some (by rw [decide_eq_false (show ¬ 1 ≤ ks.length by omega)]; simp))
      rw [decide_eq_true (show 1 ≤ ks.length by omega), Bool.true_and]
      refine ev_ite (fun c => ev_some ?_) (fun c => ev_some (by rw [decide_eq_false (show ¬ vs.length = ks.length by omega)]; simp))
      rw [decide_eq_true (show vs.length = ks.length by omega), Bool.true_and, Bool.eq_iff_iff]
      simp
    · intro i x r hi' hx ih
      refine Ev.step (fun k => by rw [spec_NodeOk.l0]) (ev_pos (by omega) (ev_pos (by omega) ?_))
      rw [show rdOf ByteArray.empty vs (i : Int) = x from getD_at hx, wrap_succ (by omega)]
      refine ev_ite (fun c => ?_) (fun c => ?_)
      · rw [if_neg (by simp only [decide_eq_true_eq]; omega)]; exact ev_some rfl
      · rw [if_pos (by simp only [decide_eq_true_eq]; omega)]; exact ih
  have l1 : Ev (fun k => spec_NodeOk.l1 k 0 b ks vs ids) (ids.all (fun n => inB n 2 47) && decide (1 ≤ ids.length) && decide (ks.length + 1 = ids.length) && decide (vs.length = 0)) := by
    have h := ev_all (fun k i => spec_NodeOk.l1 k i b ks vs ids) ids (fun n => inB n 2 47) (decide (1 ≤ ids.length) && decide (ks.length + 1 = ids.length) && decide (vs.length = 0)) ?_ ?_
    · refine ev_eq h ?_
      by_cases c : ids.all (fun n => inB n 2 47) = true
      · rw [if_pos c, c, Bool.true_and]
      · rw [if_neg c, Bool.eq_false_iff.2 c, Bool.false_and, Bool.false_and, Bool.false_and]
    · refine Ev.step (fun k => by rw [spec_NodeOk.l1]) (ev_neg (by omega) ?_)
      refine ev_ite (fun c => ?_) (fun c => ev_some (by rw [decide_eq_false (show ¬ 1 ≤ ids.length by omega)]; simp))
      rw [decide_eq_true (show 1 ≤ ids.length by omega), Bool.true_and, wrap_id (by omega) (by omega)]
      refine ev_ite (fun c => ev_some ?_) (fun c => ev_some (by rw [decide_eq_false (show ¬ ks.length + 1 = ids.length by omega)]; simp))
      rw [decide_eq_true (show ks.length + 1 = ids.length by omega), Bool.true_and, Bool.eq_iff_iff]
      simp
    · intro i x r hi' hx ih
      refine Ev.step (fun k => by rw [spec_NodeOk.l1]) (ev_pos (by omega) (ev_pos (by omega) ?_))
      rw [show rd ids (i : Int) = x from getD_at hx, wrap_succ (by omega)]
      refine Ev.bind (ev_c (spec_l1In_eq _ _ _)) (ev_ite (fun c => ?_) (fun c => ?_))
      · rw [if_pos c]; exact ih
      · rw [if_neg c]; exact ev_some rfl
  have j0 : ∀ q : Bool, Ev (fun k => spec_NodeOk.j0 k q b ks vs ids) (if q = true then false else if b = true then (vs.all (fun v => decide ((v.size : Int) ≤ 60)) && decide (1 ≤ ks.length) && decide (vs.length = ks.length) && decide (ids.length = 0)) else (ids.all (fun n => inB n 2 47) && decide (1 ≤ ids.length) && decide (ks.length + 1 = ids.length) && decide (vs.length = 0))) := by
    intro q
    refine Ev.step (fun k => by rw [spec_NodeOk.j0]) (ev_ite (fun c => ?_) (fun c => ?_))
    · rw [if_pos c]; exact ev_some rfl
    · rw [if_neg c]
      exact ev_ite (fun h => by rw [if_pos h]; exact l0) (fun h => by rw [if_neg h]; exact l1)
  unfold spec_NodeOk.f nodeOkM
  refine Ev.bind (spec_l14Rising_ev ks (by omega)) ?_
  refine ev_ite (fun c => ?_) (fun c => ?_)
  · rw [c, Bool.true_and]
    refine Ev.bind (spec_SizeOf_ev b ks vs ids hk hv hi) (ev_eq (j0 _) ?_)
    by_cases d : ((nodeB b ks vs ids).length : Int) ≤ 240
    · rw [if_neg (by simp only [decide_eq_true_eq]; omega), decide_eq_true d, Bool.true_and]
    · rw [if_pos (by simp only [decide_eq_true_eq]; omega), decide_eq_false d, Bool.false_and]
  · rw [Bool.eq_false_iff.2 c, Bool.false_and, Bool.false_and]
    exact ev_eq (j0 true) (by simp)

theorem spec_GetU_round (b : List Int) (at_ : Nat) (hl : b.length ≤ 1000000000) (ha : at_ ≤ 1000000000) (hb : ∀ x ∈ b, 0 ≤ x ∧ x ≤ 255) : ∀ (d i : Nat) (v : Int), i + d = 3 → 0 ≤ v → v < 128 ^ i → Ev (fun k => spec_GetU.l0 k b (at_ : Int) v (i : Int)) (tripU at_ (getUR d i v (b.drop (at_ + i)))) := by
  intro d
  induction d with
  | zero =>
    intro i v hi h0 h1
    refine Ev.step (fun k => by rw [spec_GetU.l0]) (ev_neg (by omega) (Ev.step (fun k => by rw [spec_GetU.j1]) (ev_neg (by simp) (ev_some (by rfl)))))
  | succ d ih =>
    intro i v hi h0 h1
    have H1 := Aside0.mk h1
    clear h1
    have w1 : wrap64 ((at_ : Int) + i) = ((at_ + i : Nat) : Int) := by rw [wrap_id (by omega) (by omega)]; omega
    refine Ev.step (fun k => by rw [spec_GetU.l0]) (ev_pos (by omega) (ev_pos (by omega) ?_))
    rw [w1]
    by_cases c : at_ + i < b.length
    · refine ev_pos (by omega) (Ev.step (fun k => by rw [spec_GetU.j1]) (ev_pos (by rw [decide_eq_true]; omega) ?_))
      rw [w1]
      have hx : b[at_ + i]? = some b[at_ + i] := List.getElem?_eq_getElem c
      have hd := List.drop_eq_getElem_cons c
      have hx0 := hb _ (List.getElem_mem c)
      generalize b[at_ + i] = x at hx hd hx0
      rw [hd, rd_at hx, wrap_id (x := x) (by omega) (by omega)]
      have w2 : IntKind.u64.wrap (wrap64 (7 * (i : Int))) = 7 * (i : Int) := by rw [wrap_id (by omega) (by omega), IntKind.wrap_u64]; omega
      have w3 : wrap64 ((i : Int) + 1) = ((i + 1 : Nat) : Int) := wrap_succ (by omega)
      have w4 : wrap64 (((at_ + i : Nat) : Int) + 1) = ((at_ + (i + 1) : Nat) : Int) := by rw [wrap_id (by omega) (by omega)]; omega
      rw [w2, w3, w4, and127 x (by omega) (by omega), shl_at (x % 128) i (by omega) (by omega) (by omega), or_grp i (by omega) (x % 128) v (by omega) (by omega) h0 H1.out]
      have f1 : (0 : Int) ≤ ((at_ + i : Nat) : Int) := by omega
      have f2 : ((at_ + i : Nat) : Int) < (b.length : Int) := by omega
      have f3 : (0 : Int) ≤ 7 * (i : Int) := by omega
      have em : x > 127 → x % 128 = x - 128 := fun _ => by omega
      have el : ¬ x > 127 → x % 128 = x := fun _ => by omega
      have hi0 : (i : Int) > 0 ↔ i > 0 := by omega
      have g7 : x ≥ 128 ↔ x > 127 := by omega
      have i3 : i + 1 + d = 3 := by omega
      have BD := Aside0.mk (grp_bd i (by omega) (x % 128) v (by omega) (by omega) h0 H1.out)
      refine ev_pos f1 (ev_pos f2 (ev_pos f3 ?_))
      refine ev_ite (fun g => ?_) (fun g => ?_)
      · rw [getUR, if_pos g]
        rw [em g] at BD ⊢
        have := ih (i + 1) (v + (x - 128) * 128 ^ i) i3 BD.out.1 BD.out.2.1
        rwa [← Nat.add_assoc] at this
      · rw [getUR, if_neg g]
        rw [el g]
        refine ev_ite (fun g2 => ?_) (fun g2 => ?_)
        · refine ev_ite (fun g3 => ?_) (fun g3 => ?_)
          · rw [if_pos ⟨g3, hi0.1 g2⟩]; exact ev_some (by rfl)
          · rw [if_neg (show ¬ (x = 0 ∧ i > 0) from fun h => g3 h.1)]
            refine ev_ite (fun g4 => ?_) (fun g4 => ?_)
            · rw [if_pos (show v + x * 128 ^ i > 1000000 from g4)]; exact ev_some (by rfl)
            · rw [if_neg (show ¬ v + x * 128 ^ i > 1000000 from g4)]; exact ev_some (by rfl)
        · rw [if_neg (show ¬ (x = 0 ∧ i > 0) from fun h => g2 (hi0.2 h.2))]
          refine ev_ite (fun g4 => ?_) (fun g4 => ?_)
          · rw [if_pos (show v + x * 128 ^ i > 1000000 from g4)]; exact ev_some (by rfl)
          · rw [if_neg (show ¬ v + x * 128 ^ i > 1000000 from g4)]; exact ev_some (by rfl)
    · have hd : b.drop (at_ + i) = [] := List.drop_eq_nil_of_le (by omega)
      rw [hd, getUR]
      refine ev_ite (fun _ => ?_) (fun _ => ?_)
      · exact Ev.step (fun k => by rw [spec_GetU.j1]) (ev_neg (by rw [decide_eq_true_iff]; omega) (ev_some (by rfl)))
      · exact Ev.step (fun k => by rw [spec_GetU.j1]) (ev_neg (by simp) (ev_some (by rfl)))
theorem spec_GetU_ev (b : List Int) (at_ : Nat) (hl : b.length ≤ 1000000000) (ha : at_ ≤ 1000000000) (hb : ∀ x ∈ b, 0 ≤ x ∧ x ≤ 255) : Ev (fun k => spec_GetU.f k b (at_ : Int)) (tripU at_ (getUM (b.drop at_))) := by
  unfold spec_GetU.f
  exact spec_GetU_round b at_ hl ha hb 3 0 0 (by omega) (by omega) (by simp)

theorem spec_l14Num_ev (b : List Int) (at_ : Nat) (bad : Bool) (hl : b.length ≤ 1000000000) (ha : at_ ≤ 1000000000) (hb : ∀ x ∈ b, 0 ≤ x ∧ x ≤ 255) : Ev (fun k => spec_l14Num.f k b (at_ : Int) bad) (if bad = true then (0, (at_ : Int), true) else match getUM (b.drop at_) with | none => (0, (at_ : Int), true) | some (n, c) => (n, ((at_ + c : Nat) : Int), false)) := by
  unfold spec_l14Num.f
  have hu := spec_GetU_ev b at_ hl ha hb
  refine Ev.bind hu (ev_ite (fun h => by rw [if_pos h]; exact ev_some rfl) (fun h => ?_))
  rw [if_neg h]
  have hf : bad = false := Bool.eq_false_iff.2 h
  subst hf
  cases getUM (b.drop at_) with
  | none => exact ev_neg (by simp [tripU]) (ev_some rfl)
  | some p => obtain ⟨n, c⟩ := p; exact ev_pos rfl (ev_some rfl)

theorem spec_GetText_ev (b : List Int) (at_ : Nat) (hl : b.length ≤ 1000000000) (ha : at_ ≤ b.length) (hb : ∀ x ∈ b, 0 ≤ x ∧ x ≤ 255) : Ev (fun k => spec_GetText.f k b (at_ : Int)) (tripT at_ (getTextM (b.drop at_))) := by
  have hbd : ∀ x ∈ b.drop at_, 0 ≤ x ∧ x ≤ 255 := fun x hx => hb x (List.mem_of_mem_drop hx)
  have hu := spec_GetU_ev b at_ hl (by omega) hb
  unfold spec_GetText.f getTextM
  cases hg : getUM (b.drop at_) with
  | none =>
    rw [hg] at hu
    have hu2 : Ev (fun k => spec_GetU.f k b (at_ : Int)) ((0, 0, false) : Int × Int × Bool) := hu
    exact Ev.bind hu2 (ev_neg (by simp) (ev_some (by rfl)))
  | some p =>
    obtain ⟨n, c⟩ := p
    have ⟨n0, n1, cl, c1, _, _⟩ := getUM_exact hbd hg
    rw [List.length_drop] at cl
    rw [hg] at hu
    have hu2 : Ev (fun k => spec_GetU.f k b (at_ : Int)) ((n, ((at_ + c : Nat) : Int), true) : Int × Int × Bool) := hu
    refine Ev.bind hu2 (ev_pos rfl ?_)
    dsimp only
    rw [wrap_id (x := (b.length : Int) - ((at_ + c : Nat) : Int)) (by omega) (by omega), wrap_id (x := ((at_ + c : Nat) : Int) + n) (by omega) (by omega), List.length_drop]
    refine ev_ite (fun g => ?_) (fun g => ?_)
    · rw [if_pos (show n > ((b.length - at_ : Nat) : Int) - c by omega)]; exact ev_some (by rfl)
    · rw [if_neg (show ¬ n > ((b.length - at_ : Nat) : Int) - c by omega)]
      refine ev_pos (by omega) (ev_pos (by omega) (ev_pos (by omega) (ev_some ?_)))
      have e : (((at_ + c : Nat) : Int) + n).toNat = at_ + c + n.toNat := by omega
      rw [e, Int.toNat_natCast, List.drop_take, List.drop_drop]
      simp only [tripT]
      rw [show at_ + c + n.toNat - (at_ + c) = n.toNat by omega, show ((at_ + (c + n.toNat) : Nat) : Int) = ((at_ + c : Nat) : Int) + n by omega]

theorem spec_l14Text_ev (b : List Int) (at_ : Nat) (hl : b.length ≤ 1000000000) (ha : at_ ≤ b.length) (hb : ∀ x ∈ b, 0 ≤ x ∧ x ≤ 255) : Ev (fun k => spec_l14Text.f k b (at_ : Int) false) (match getTextM (b.drop at_) with | none => ((⟨#[]⟩ : ByteArray), (at_ : Int), true) | some (s, c) => (s, ((at_ + c : Nat) : Int), false)) := by
  unfold spec_l14Text.f
  have hu := spec_GetText_ev b at_ hl ha hb
  refine Ev.bind hu (ev_neg (by simp) ?_)
  cases getTextM (b.drop at_) with
  | none => exact ev_neg (by simp [tripT]) (ev_some rfl)
  | some p => obtain ⟨n, c⟩ := p; exact ev_pos rfl (ev_some rfl)

/-- n things that g reads, one behind the other, and what is left. -/
def readsM {β : Type} (g : List Int → Option (β × Nat)) : Nat → List Int → Option (List β × List Int)
  | 0, r => some ([], r)
  | n + 1, r => match g r with
    | none => none
    | some (x, c) => match readsM g n (r.drop c) with
      | none => none
      | some (xs, r2) => some (x :: xs, r2)
theorem readsM_len {β : Type} {g : List Int → Option (β × Nat)} (hg : ∀ r, (∀ x ∈ r, 0 ≤ x ∧ x ≤ 255) → ∀ x c, g r = some (x, c) → c ≤ r.length ∧ 1 ≤ c) : ∀ (n : Nat) (r : List Int), (∀ b ∈ r, 0 ≤ b ∧ b ≤ 255) → ∀ xs r2, readsM g n r = some (xs, r2) → xs.length = n ∧ n + r2.length ≤ r.length ∧ ∀ b ∈ r2, 0 ≤ b ∧ b ≤ 255
  | 0, r, hr, xs, r2, h => by
    simp only [readsM, Option.some.injEq, Prod.mk.injEq] at h
    obtain ⟨rfl, rfl⟩ := h
    exact ⟨rfl, by omega, hr⟩
  | n + 1, r, hb, xs, r2, h => by
    rw [readsM] at h
    cases hv : g r with
    | none => rw [hv] at h; cases h
    | some q =>
      obtain ⟨x, c⟩ := q
      rw [hv] at h
      simp only at h
      have ⟨e1, e2⟩ := hg r hb x c hv
      cases hr : readsM g n (r.drop c) with
      | none => rw [hr] at h; cases h
      | some p =>
        obtain ⟨xs1, r1⟩ := p
        rw [hr] at h
        simp only [Option.some.injEq, Prod.mk.injEq] at h
        obtain ⟨rfl, rfl⟩ := h
        have ⟨i1, i2, i3⟩ := readsM_len hg n (r.drop c) (fun b hm => hb b (List.mem_of_mem_drop hm)) xs1 r1 hr
        rw [List.length_drop] at i2
        exact ⟨by rw [List.length_cons, i1], by omega, i3⟩
theorem ev_reads {α β : Type} (b : List Int) (hb : ∀ x ∈ b, 0 ≤ x ∧ x ≤ 255) (g : List Int → Option (β × Nat)) (f : β → List Int) (sz : β → Nat) (hg : ∀ r, (∀ x ∈ r, 0 ≤ x ∧ x ≤ 255) → ∀ x c, g r = some (x, c) → c ≤ r.length ∧ r = f x ++ r.drop c ∧ sz x + 1 ≤ c)
    (pre : List Int) (n : Nat) (L : Nat → Nat → List β → Int → Option α) (bad : α) (K : List β → List Int → α)
    (base : ∀ a xs, a ≤ b.length → b = pre ++ xs.flatMap f ++ b.drop a → xs.length = n → xs.length + (xs.map sz).sum ≤ a → Ev (fun k => L k a xs (n : Int)) (K xs (b.drop a)))
    (fail : ∀ a xs (i : Nat), a ≤ b.length → i < n → xs.length = i → xs.length + (xs.map sz).sum ≤ a → g (b.drop a) = none → Ev (fun k => L k a xs (i : Int)) bad)
    (step : ∀ a xs (i : Nat) x c R, a ≤ b.length → i < n → xs.length = i → xs.length + (xs.map sz).sum ≤ a → a + c ≤ b.length → g (b.drop a) = some (x, c) → Ev (fun k => L k (a + c) (xs ++ [x]) ((i + 1 : Nat) : Int)) R → Ev (fun k => L k a xs (i : Int)) R) :
    ∀ (d i a : Nat) (xs : List β), i + d = n → xs.length = i → a ≤ b.length → b = pre ++ xs.flatMap f ++ b.drop a → xs.length + (xs.map sz).sum ≤ a →
      ∀ R, R = (match readsM g d (b.drop a) with | none => bad | some (ys, r) => K (xs ++ ys) r) → Ev (fun k => L k a xs (i : Int)) R := by
  intro d
  induction d with
  | zero =>
    intro i a xs hi hx ha hbb hs R hR
    simp only [readsM, List.append_nil] at hR
    rw [hR]
    have := base a xs ha hbb (by omega) hs
    rw [show i = n by omega]
    exact this
  | succ d ih =>
    intro i a xs hi hx ha hbb hs R hR
    rw [readsM] at hR
    have hbd : ∀ x ∈ b.drop a, 0 ≤ x ∧ x ≤ 255 := fun x hm => hb x (List.mem_of_mem_drop hm)
    cases hv : g (b.drop a) with
    | none => rw [hv] at hR; rw [hR]; exact fail a xs i ha (by omega) hx hs hv
    | some q =>
      obtain ⟨x, c⟩ := q
      rw [hv] at hR
      have ⟨e1, e2, e3⟩ := hg _ hbd x c hv
      rw [List.length_drop] at e1
      simp only [List.drop_drop] at hR e2
      refine step a xs i x c R ha (by omega) hx hs (by omega) hv (ih (i + 1) (a + c) (xs ++ [x]) (by omega) (by rw [List.length_append, List.length_singleton, hx]) (by omega) ?_ ?_ R ?_)
      · rw [List.flatMap_append, List.flatMap_cons, List.flatMap_nil, List.append_nil, ← List.append_assoc, List.append_assoc (pre ++ xs.flatMap f), ← e2]
        exact hbb
      · simp only [List.length_append, List.length_singleton, List.map_append, List.map_cons, List.map_nil, List.sum_append, List.sum_cons, List.sum_nil]
        omega
      · rw [hR]
        cases readsM g d (b.drop (a + c)) with
        | none => rfl
        | some w => obtain ⟨ys, r⟩ := w; simp only [List.append_assoc, List.cons_append, List.nil_append]
theorem text_g (r : List Int) (hr : ∀ x ∈ r, 0 ≤ x ∧ x ≤ 255) (x : ByteArray) (c : Nat) (h : getTextM r = some (x, c)) : c ≤ r.length ∧ r = txtM x ++ r.drop c ∧ x.size + 1 ≤ c := by
  have ⟨e1, e2, _⟩ := getTextM_exact hr h
  refine ⟨e1, e2, ?_⟩
  have l := congrArg List.length e2
  have u := uM_len x.size
  simp only [txtM, List.length_append, List.length_drop, bytesOf_length] at l
  omega
theorem num_g (r : List Int) (hr : ∀ x ∈ r, 0 ≤ x ∧ x ≤ 255) (x : Int) (c : Nat) (h : getUM r = some (x, c)) : c ≤ r.length ∧ r = uM x ++ r.drop c ∧ 0 + 1 ≤ c := by
  have ⟨_, _, e1, e2, _, e3⟩ := getUM_exact hr h
  exact ⟨e1, e3, by omega⟩
abbrev NodeR := Bool × List ByteArray × List ByteArray × List Int × Bool
def badN : NodeR := (false, [], [], [], false)
def finN (l : Bool) (ks vs : List ByteArray) (ids r : List Int) : NodeR := if r = [] ∧ nodeOkM l ks vs ids = true then (l, ks, vs, ids, true) else badN
def restN (l : Bool) (n : Nat) (ks : List ByteArray) (r : List Int) : NodeR :=
  if l = true then (match readsM getTextM n r with | none => badN | some (vs, r2) => finN l ks vs [] r2)
  else (match readsM getUM (n + 1) r with | none => badN | some (ids, r2) => finN l ks [] ids r2)
/-- What bytes are as a node. -/
def getNM (b : List Int) : NodeR := match getUM b with
  | none => badN
  | some (leaf, c) => match getUM (b.drop c) with
    | none => badN
    | some (n, c2) => if leaf > 1 then badN else match readsM getTextM n.toNat (b.drop (c + c2)) with
      | none => badN
      | some (ks, r) => restN (leaf == 1) n.toNat ks r
theorem finN_len (l : Bool) (ks vs : List ByteArray) (ids r : List Int) (h : ks.length ≤ 1048576 ∧ vs.length ≤ 1048576 ∧ ids.length ≤ 1048576) : (finN l ks vs ids r).2.1.length ≤ 1048576 ∧ (finN l ks vs ids r).2.2.1.length ≤ 1048576 ∧ (finN l ks vs ids r).2.2.2.1.length ≤ 1048576 := by
  unfold finN
  split
  · exact h
  · exact ⟨Nat.zero_le _, Nat.zero_le _, Nat.zero_le _⟩
theorem getNM_len (b : List Int) (hl : b.length ≤ 1048576) (hb : ∀ x ∈ b, 0 ≤ x ∧ x ≤ 255) : (getNM b).2.1.length ≤ 1048576 ∧ (getNM b).2.2.1.length ≤ 1048576 ∧ (getNM b).2.2.2.1.length ≤ 1048576 := by
  have z : badN.2.1.length ≤ 1048576 ∧ badN.2.2.1.length ≤ 1048576 ∧ badN.2.2.2.1.length ≤ 1048576 := ⟨Nat.zero_le _, Nat.zero_le _, Nat.zero_le _⟩
  unfold getNM
  cases getUM b with
  | none => exact z
  | some p =>
    obtain ⟨leaf, c⟩ := p
    simp only
    cases getUM (b.drop c) with
    | none => exact z
    | some p =>
      obtain ⟨n, c2⟩ := p
      simp only
      split
      · exact z
      · cases hk : readsM getTextM n.toNat (b.drop (c + c2)) with
        | none => exact z
        | some p =>
          obtain ⟨ks, r⟩ := p
          simp only
          have ⟨k1, k2, k3⟩ := readsM_len (fun r hr x c h => ⟨(text_g r hr x c h).1, by have := (text_g r hr x c h).2.2; omega⟩) _ _ (fun x hx => hb x (List.mem_of_mem_drop hx)) _ _ hk
          rw [List.length_drop] at k2
          unfold restN
          split
          · cases hv : readsM getTextM n.toNat r with
            | none => exact z
            | some p =>
              obtain ⟨vs, r2⟩ := p
              have ⟨v1, v2, _⟩ := readsM_len (fun r hr x c h => ⟨(text_g r hr x c h).1, by have := (text_g r hr x c h).2.2; omega⟩) _ _ k3 _ _ hv
              exact finN_len _ _ _ _ _ ⟨by omega, by omega, Nat.zero_le _⟩
          · cases hv : readsM getUM (n.toNat + 1) r with
            | none => exact z
            | some p =>
              obtain ⟨ids, r2⟩ := p
              have ⟨v1, v2, _⟩ := readsM_len (fun r hr x c h => ⟨(num_g r hr x c h).1, by have := (num_g r hr x c h).2.2; omega⟩) _ _ k3 _ _ hv
              exact finN_len _ _ _ _ _ ⟨by omega, Nat.zero_le _, by omega⟩
theorem readsM_ex {β : Type} {g : List Int → Option (β × Nat)} {f : β → List Int} (hg : ∀ r, (∀ x ∈ r, 0 ≤ x ∧ x ≤ 255) → ∀ x c, g r = some (x, c) → r = f x ++ r.drop c) : ∀ (n : Nat) (r : List Int), (∀ b ∈ r, 0 ≤ b ∧ b ≤ 255) → ∀ xs r2, readsM g n r = some (xs, r2) → r = xs.flatMap f ++ r2
  | 0, r, hr, xs, r2, h => by
    simp only [readsM, Option.some.injEq, Prod.mk.injEq] at h
    obtain ⟨rfl, rfl⟩ := h
    rfl
  | n + 1, r, hb, xs, r2, h => by
    rw [readsM] at h
    cases hv : g r with
    | none => rw [hv] at h; cases h
    | some q =>
      obtain ⟨x, c⟩ := q
      rw [hv] at h
      simp only at h
      have e := hg r hb x c hv
      cases hr : readsM g n (r.drop c) with
      | none => rw [hr] at h; cases h
      | some p =>
        obtain ⟨xs1, r1⟩ := p
        rw [hr] at h
        simp only [Option.some.injEq, Prod.mk.injEq] at h
        obtain ⟨rfl, rfl⟩ := h
        have i1 := readsM_ex hg n (r.drop c) (fun b hm => hb b (List.mem_of_mem_drop hm)) xs1 r1 hr
        rw [List.flatMap_cons, List.append_assoc, ← i1]
        exact e
theorem finN_long (b : List Int) (h : (b.length : Int) > 240) (l : Bool) (ks vs : List ByteArray) (ids r : List Int) (e : b = nodeB l ks vs ids ++ r) : finN l ks vs ids r = badN := by
  unfold finN
  refine if_neg (fun q => ?_)
  rw [q.1, List.append_nil] at e
  have := q.2
  unfold nodeOkM at this
  simp only [Bool.and_eq_true, decide_eq_true_eq] at this
  have l2 := this.1.2
  rw [← e] at l2
  omega
theorem getNM_long (b : List Int) (hb : ∀ x ∈ b, 0 ≤ x ∧ x ≤ 255) (h : (b.length : Int) > 240) : getNM b = badN := by
  unfold getNM
  cases h0 : getUM b with
  | none => rfl
  | some p =>
    obtain ⟨leaf, c⟩ := p
    have ⟨g0, g1, g2, g3, _, g4⟩ := getUM_exact hb h0
    simp only
    cases h1 : getUM (b.drop c) with
    | none => rfl
    | some p =>
      obtain ⟨n, c2⟩ := p
      have ⟨n0, n1, n2, n3, _, n4⟩ := getUM_exact (fun x hx => hb x (List.mem_of_mem_drop hx)) h1
      simp only
      by_cases hle : leaf > 1
      · rw [if_pos hle]
      rw [if_neg hle]
      have e1 : uM leaf = uM (if (leaf == 1) = true then 1 else 0) := by
        by_cases q : leaf = 1
        · rw [q]; rfl
        · rw [if_neg (by simpa using q), show leaf = 0 by omega]
      have pp : b = (uM (if (leaf == 1) = true then 1 else 0) ++ uM n) ++ b.drop (c + c2) := by
        rw [List.append_assoc, ← List.drop_drop, ← n4, ← e1]; exact g4
      cases hk : readsM getTextM n.toNat (b.drop (c + c2)) with
      | none => rfl
      | some p =>
        obtain ⟨ks, r⟩ := p
        simp only
        have hbd : ∀ x ∈ b.drop (c + c2), 0 ≤ x ∧ x ≤ 255 := fun x hx => hb x (List.mem_of_mem_drop hx)
        have ⟨k1, k2, k3⟩ := readsM_len (fun r hr x c h => ⟨(text_g r hr x c h).1, by have := (text_g r hr x c h).2.2; omega⟩) _ _ hbd _ _ hk
        have k4 := readsM_ex (fun r hr x c h => (text_g r hr x c h).2.1) _ _ hbd _ _ hk
        rw [k4, ← show ((ks.length : Nat) : Int) = n by omega] at pp
        unfold restN
        generalize (leaf == 1) = l at pp
        cases l with
        | true =>
          rw [if_pos rfl]
          cases hv : readsM getTextM n.toNat r with
          | none => rfl
          | some p =>
            obtain ⟨vs, r2⟩ := p
            have v4 := readsM_ex (fun r hr x c h => (text_g r hr x c h).2.1) _ _ k3 _ _ hv
            rw [v4] at pp
            refine finN_long b h _ _ _ _ _ ?_
            unfold nodeB
            simp only [if_pos] at pp ⊢
            rw [pp]
            simp only [List.append_assoc]
        | false =>
          rw [if_neg (by simp)]
          cases hv : readsM getUM (n.toNat + 1) r with
          | none => rfl
          | some p =>
            obtain ⟨ids, r2⟩ := p
            have v4 := readsM_ex (fun r hr x c h => (num_g r hr x c h).2.1) _ _ k3 _ _ hv
            rw [v4] at pp
            refine finN_long b h _ _ _ _ _ ?_
            unfold nodeB
            simp only [if_neg Bool.false_ne_true] at pp ⊢
            rw [pp]
            simp only [List.append_assoc]

theorem spec_GetNode_ev (b : List Int) (hl : b.length ≤ 1048576) (hb : ∀ x ∈ b, 0 ≤ x ∧ x ≤ 255) : Ev (fun k => spec_GetNode.f k b) (getNM b) := by
  have bad2 : ∀ (n i : Int) (a : Int) (l : Bool) (ks vs : List ByteArray) (ids : List Int), Ev (fun k => spec_GetNode.l2 k b n i b a true l ks vs ids) badN := by
    intro n i a l ks vs ids
    refine Ev.step (fun k => by rw [spec_GetNode.l2]) ?_
    exact ev_ite (fun _ => ev_pos rfl (ev_some rfl)) (fun _ => ev_pos rfl (ev_some rfl))
  have bad1 : ∀ (n i : Int) (a : Int) (l : Bool) (ks vs : List ByteArray), Ev (fun k => spec_GetNode.l1 k b n i b a true l ks vs) badN := fun n i a l ks vs => by
    have j : Ev (fun k => spec_GetNode.j4 k b n b a true l ks vs) badN := Ev.step (fun k => by rw [spec_GetNode.j4]) (bad2 ..)
    refine Ev.step (fun k => by rw [spec_GetNode.l1]) ?_
    exact ev_ite (fun _ => ev_pos rfl j) (fun _ => j)
  have bad0 : ∀ (n i : Int) (a : Int) (l : Bool) (ks : List ByteArray), Ev (fun k => spec_GetNode.l0 k b n i b a true l ks) badN := fun n i a l ks => by
    have j : Ev (fun k => spec_GetNode.j2 k b n b a true l ks) badN := Ev.step (fun k => by rw [spec_GetNode.j2]) (bad1 ..)
    refine Ev.step (fun k => by rw [spec_GetNode.l0]) ?_
    exact ev_ite (fun _ => ev_pos rfl j) (fun _ => j)
  have badj : ∀ (leaf n : Int) (a : Int), Ev (fun k => spec_GetNode.j0 k b leaf n b a true) badN := fun leaf n a => Ev.step (fun k => by rw [spec_GetNode.j0]) (bad0 ..)
  -- the end
  have fin : ∀ (a : Nat) (l : Bool) (ks vs : List ByteArray) (ids : List Int), a ≤ b.length → ks.length + (ks.map ByteArray.size).sum ≤ 1048576 → vs.length + (vs.map ByteArray.size).sum ≤ 1048576 → ids.length ≤ 1048576 →
      Ev (fun k => if (a : Int) = (b.length : Int) then ((spec_NodeOk.f k l ks vs ids).bind fun t => (if t = true then (some (l, ks, vs, ids, true)) else (some (false, ([] : List ByteArray), ([] : List ByteArray), ([] : List Int), false)))) else (some (false, ([] : List ByteArray), ([] : List ByteArray), ([] : List Int), false))) (finN l ks vs ids (b.drop a)) := by
    intro a l ks vs ids ha hk hv hi
    unfold finN
    refine ev_ite (fun h => ?_) (fun h => ?_)
    · have e : b.drop a = [] := List.drop_eq_nil_of_le (by omega)
      refine Ev.bind (spec_NodeOk_ev l ks vs ids hk hv hi) (ev_ite (fun h2 => ?_) (fun h2 => ?_))
      · rw [if_pos ⟨e, h2⟩]; exact ev_some rfl
      · rw [if_neg (fun q => h2 q.2)]; exact ev_some rfl
    · rw [if_neg (fun q => h (by
        have := congrArg List.length q.1
        rw [List.length_drop, List.length_nil] at this
        omega))]
      exact ev_some rfl
  have sz0 : ∀ ids : List Int, (ids.map fun _ => 0).sum = 0 := fun ids => by induction ids with
    | nil => rfl
    | cons x t ih => simp [ih]
  -- behind the keys
  have rest : ∀ (a n : Nat) (l : Bool) (ks : List ByteArray) (pre : List Int), a ≤ b.length → n ≤ 1048576 → b = pre ++ b.drop a → ks.length + (ks.map ByteArray.size).sum ≤ 1048576 → Ev (fun k => spec_GetNode.j2 k b (n : Int) b (a : Int) false l ks) (restN l n ks (b.drop a)) := by
    intro a n l ks pre ha hn hp hk
    refine Ev.step (fun k => by rw [spec_GetNode.j2]) ?_
    unfold restN
    cases l with
    | true =>
      rw [if_pos rfl]
      refine ev_reads b hb getTextM txtM ByteArray.size text_g pre n (fun k a vs i => spec_GetNode.l1 k b (n : Int) i b (a : Int) false true ks vs) badN (fun vs r => finN true ks vs [] r) ?_ ?_ ?_ n 0 a [] (by omega) rfl ha (by rw [List.flatMap_nil, List.append_nil]; exact hp) (Nat.zero_le _) _ (by generalize readsM _ _ _ = z; rcases z with _ | ⟨x, y⟩ <;> rfl)
      · intro a vs ha _ hl2 hs
        refine Ev.step (fun k => by rw [spec_GetNode.l1]) ?_
        refine ev_neg (by omega) ?_
        refine Ev.step (fun k => by rw [spec_GetNode.j4]) ?_
        refine Ev.step (fun k => by rw [spec_GetNode.l2]) ?_
        exact ev_pos (by omega) (ev_neg (by simp) (ev_pos rfl (fin a true ks vs [] ha hk (by omega) (Nat.zero_le _))))
      · intro a vs i ha hi hx hs hg
        have t := spec_l14Text_ev b a (by omega) ha hb
        rw [hg] at t
        refine Ev.step (fun k => by rw [spec_GetNode.l1]) ?_
        exact ev_pos (by omega) (ev_neg (by simp) (ev_pos rfl (Ev.bind t (ev_pos (by omega) (bad1 ..)))))
      · intro a vs i x c R ha hi hx hs hc hg ih
        have t := spec_l14Text_ev b a (by omega) ha hb
        rw [hg] at t
        refine Ev.step (fun k => by rw [spec_GetNode.l1]) ?_
        refine ev_pos (by omega) (ev_neg (by simp) (ev_pos rfl (Ev.bind t (ev_pos (by omega) ?_))))
        rw [wrap_succ (by omega)]
        exact ih
    | false =>
      rw [if_neg (by simp)]
      have l1 : ∀ R, Ev (fun k => spec_GetNode.l2 k b (n : Int) 0 b (a : Int) false false ks [] []) R → Ev (fun k => spec_GetNode.l1 k b (n : Int) 0 b (a : Int) false false ks []) R := fun R h => by
        have j : Ev (fun k => spec_GetNode.j4 k b (n : Int) b (a : Int) false false ks []) R := Ev.step (fun k => by rw [spec_GetNode.j4]) h
        refine Ev.step (fun k => by rw [spec_GetNode.l1]) ?_
        exact ev_ite (fun _ => ev_neg (by simp) (ev_neg (by simp) j)) (fun _ => j)
      refine l1 _ ?_
      refine ev_reads b hb getUM uM (fun _ => 0) num_g pre (n + 1) (fun k a ids i => spec_GetNode.l2 k b (n : Int) i b (a : Int) false false ks [] ids) badN (fun ids r => finN false ks [] ids r) ?_ ?_ ?_ (n + 1) 0 a [] (by omega) rfl ha (by rw [List.flatMap_nil, List.append_nil]; exact hp) (Nat.zero_le _) _ (by generalize readsM _ _ _ = z; rcases z with _ | ⟨x, y⟩ <;> rfl)
      · intro a ids ha _ hl2 hs
        rw [sz0] at hs
        refine Ev.step (fun k => by rw [spec_GetNode.l2]) ?_
        exact ev_neg (by omega) (ev_neg (by simp) (fin a false ks [] ids ha hk (Nat.zero_le _) (by omega)))
      · intro a ids i ha hi hx hs hg
        have t := spec_l14Num_ev b a false (by omega) (by omega) hb
        rw [if_neg (by simp), hg] at t
        refine Ev.step (fun k => by rw [spec_GetNode.l2]) ?_
        exact ev_pos (by omega) (ev_neg (by simp) (ev_neg (by simp) (Ev.bind t (ev_pos (by omega) (bad2 ..)))))
      · intro a ids i x c R ha hi hx hs hc hg ih
        have t := spec_l14Num_ev b a false (by omega) (by omega) hb
        rw [if_neg (by simp), hg] at t
        refine Ev.step (fun k => by rw [spec_GetNode.l2]) ?_
        refine ev_pos (by omega) (ev_neg (by simp) (ev_neg (by simp) (Ev.bind t (ev_pos (by omega) ?_))))
        rw [wrap_succ (by omega)]
        exact ih
  -- the whole
  unfold spec_GetNode.f
  have t0 := spec_l14Num_ev b 0 false (by omega) (by omega) hb
  rw [if_neg (by simp), List.drop_zero] at t0
  unfold getNM
  cases h0 : getUM b with
  | none =>
    rw [h0] at t0
    have t1 := spec_l14Num_ev b 0 true (by omega) (by omega) hb
    rw [if_pos rfl] at t1
    exact Ev.bind t0 (Ev.bind t1 (ev_pos rfl (badj ..)))
  | some p =>
    obtain ⟨leaf, c⟩ := p
    have ⟨g0, g1, g2, g3, _, g4⟩ := getUM_exact hb h0
    rw [h0] at t0
    simp only [Nat.zero_add] at t0 ⊢
    have t1 := spec_l14Num_ev b c false (by omega) (by omega) hb
    rw [if_neg (by simp)] at t1
    cases h1 : getUM (b.drop c) with
    | none =>
      rw [h1] at t1
      exact Ev.bind t0 (Ev.bind t1 (ev_pos rfl (badj ..)))
    | some p =>
      obtain ⟨n, c2⟩ := p
      have ⟨n0, n1, n2, n3, _, n4⟩ := getUM_exact (fun x hx => hb x (List.mem_of_mem_drop hx)) h1
      rw [List.length_drop] at n2
      rw [h1] at t1
      refine Ev.bind t0 (Ev.bind t1 (ev_neg (by simp) ?_))
      simp only
      refine ev_ite (fun h => by rw [if_pos h]; exact badj ..) (fun h => ?_)
      rw [if_neg h]
      by_cases hn : n > (b.length : Int)
      · rw [decide_eq_true hn]
        have e : readsM getTextM n.toNat (b.drop (c + c2)) = none := by
          cases hk : readsM getTextM n.toNat (b.drop (c + c2)) with
          | none => rfl
          | some p =>
            obtain ⟨ks, r⟩ := p
            have ⟨k1, k2, k3⟩ := readsM_len (fun r hr x c h => ⟨(text_g r hr x c h).1, by have := (text_g r hr x c h).2.2; omega⟩) _ _ (fun x hx => hb x (List.mem_of_mem_drop hx)) _ _ hk
            rw [List.length_drop] at k2
            omega
        rw [e]
        exact badj ..
      · rw [decide_eq_false hn]
        refine Ev.step (fun k => by rw [spec_GetNode.j0]) ?_
        have en : ((n.toNat : Nat) : Int) = n := by omega
        have pp : b = (uM leaf ++ uM n) ++ b.drop (c + c2) := by
          rw [List.append_assoc, ← List.drop_drop, ← n4]; exact g4
        refine ev_reads b hb getTextM txtM ByteArray.size text_g (uM leaf ++ uM n) n.toNat (fun k a ks i => spec_GetNode.l0 k b n i b (a : Int) false (leaf == 1) ks) badN (fun ks r => restN (leaf == 1) n.toNat ks r) ?_ ?_ ?_ n.toNat 0 (c + c2) [] (by omega) rfl (by omega) (by rw [List.flatMap_nil, List.append_nil]; exact pp) (Nat.zero_le _) _ (by generalize readsM _ _ _ = z; rcases z with _ | ⟨x, y⟩ <;> rfl)
        · intro a ks ha hb2 hl2 hs
          have r := rest a n.toNat (leaf == 1) ks _ ha (by omega) hb2 (by omega)
          rw [en] at r
          refine Ev.step (fun k => by rw [spec_GetNode.l0]) ?_
          exact ev_neg (by omega) r
        · intro a ks i ha hi hx hs hg
          have t := spec_l14Text_ev b a (by omega) ha hb
          rw [hg] at t
          have bb : Ev (fun k => spec_GetNode.j2 k b n b (a : Int) true (leaf == 1) (ks ++ [⟨#[]⟩])) badN := Ev.step (fun k => by rw [spec_GetNode.j2]) (bad1 ..)
          refine Ev.step (fun k => by rw [spec_GetNode.l0]) ?_
          exact ev_pos (by omega) (ev_neg (by simp) (Ev.bind t (ev_pos (by omega) (bad0 ..))))
        · intro a ks i x c R ha hi hx hs hc hg ih
          have t := spec_l14Text_ev b a (by omega) ha hb
          rw [hg] at t
          refine Ev.step (fun k => by rw [spec_GetNode.l0]) ?_
          refine ev_pos (by omega) (ev_neg (by simp) (Ev.bind t (ev_pos (by omega) ?_)))
          rw [wrap_succ (by omega)]
          exact ih

theorem laws_toByteS_ev (l : List Int) (hs : l.length ≤ 1048576) : Ev (fun k => laws_toByteS.f k l) l := by
  unfold laws_toByteS.f
  refine ev_pos (by omega) (ev_pos (by omega) ?_)
  refine ev_eq (ev_fill (fun k s i => laws_toByteS.l0 k l s i) l id ?_ ?_ _ (by simp)) (List.map_id l)
  · intro s hI
    refine Ev.step (fun k => by rw [laws_toByteS.l0]) ?_
    exact ev_neg (by omega) (ev_some rfl)
  · intro s i x r hI hi hx ih
    refine Ev.step (fun k => by rw [laws_toByteS.l0]) ?_
    refine ev_pos (by omega) (ev_pos (by omega) (ev_pos (by omega) ?_))
    rw [wrap_succ (by omega), show rd l (i : Int) = x from getD_at hx]
    exact ih

theorem impl_addU_loop (s : List Int) (n : Int) (hs : s.length < 140737488355317) (h0 : 0 ≤ n) (h1 : n ≤ 1000000) : Ev (fun k => impl_addU.l0 k s n) (s ++ groups n) := by
  refine ev_groups (fun k s n => impl_addU.l0 k s n) ?_ ?_ s n hs h0 h1
  · intro s n r hs h0 h1 ih
    refine Ev.step (fun k => by rw [impl_addU.l0]) ?_
    refine ev_pos h0 (ev_pos (by omega) ?_)
    rw [Int.tmod_eq_emod_of_nonneg (by omega), Int.tdiv_eq_ediv_of_nonneg (by omega), wrap_id (by omega) (by omega), wrap_id (by omega) (by omega), show (n % 128 + 128) % 256 = n % 128 + 128 by omega]
    exact ih
  · intro s n hs h0 h1
    refine Ev.step (fun k => by rw [impl_addU.l0]) ?_
    refine ev_neg (by omega) (ev_pos (by omega) (ev_some ?_))
    rw [show n % 256 = n by omega]
theorem impl_addU_ev (l : List Int) (n : Int) (hs : l.length < 140737488355317) : Ev (fun k => impl_addU.f k l n) (l ++ uM n) := by
  have hb := clampU_bd n
  unfold impl_addU.f impl_clamp.f
  refine Ev.bind (ev_c rfl) ?_
  rw [clampU_mx]
  exact impl_addU_loop _ _ hs hb.1 hb.2

theorem impl_addText_ev (l : List Int) (s : ByteArray) (hs : l.length + s.size < 140737488355310) : Ev (fun k => impl_addText.f k l s) (l ++ uM s.size ++ bytesOf s) := by
  have hb := uM_len s.size
  unfold impl_addText.f
  refine Ev.bind (impl_addU_ev l _ (by omega)) (ev_pos (by simp only [List.length_append]; omega) (ev_some rfl))

theorem impl_bodyOf_ev (b : Bool) (ks vs : List ByteArray) (ids : List Int) (hk : ks.length + (ks.map ByteArray.size).sum ≤ 1048576) (hv : vs.length + (vs.map ByteArray.size).sum ≤ 1048576) (hi : ids.length ≤ 1048576) :
    Ev (fun k => impl_bodyOf.f k b ks vs ids) (nodeB b ks vs ids) := by
  have s1 := sum_le3 ks txtM ByteArray.size txtM_len
  have s2 := sum_le3 vs txtM ByteArray.size txtM_len
  have s3 := sum_uM ids
  have txt : ∀ (s : List Int) (x : ByteArray), s.length + (txtM x).length ≤ 1000000000 → Ev (fun k => impl_addText.f k s x) (s ++ txtM x) := by
    intro s x h
    have e : (txtM x).length = (uM x.size).length + x.size := by unfold txtM; rw [List.length_append, bytesOf_length]
    unfold txtM
    rw [← List.append_assoc]
    exact impl_addText_ev s x (by omega)
  have kids : ∀ s, s.length + (ids.map fun x => (uM x).length).sum ≤ 1000000000 → Ev (fun k => impl_bodyOf.l2 k s ids (ids.length : Int) 0) (s ++ ids.flatMap uM) := by
    intro s hs
    refine ev_flat (fun k s i => impl_bodyOf.l2 k s ids (ids.length : Int) i) ids uM (fun s => s) 1000000000 ?_ ?_ s hs
    · intro s _
      refine Ev.step (fun k => by rw [impl_bodyOf.l2]) (ev_neg (by omega) (ev_some rfl))
    · intro s i x r hB hi' hx ih
      refine Ev.step (fun k => by rw [impl_bodyOf.l2]) (ev_pos (by omega) (ev_pos (by omega) (ev_pos (by omega) ?_)))
      rw [show rd ids (i : Int) = x from getD_at hx, wrap_succ (by omega)]
      exact Ev.bind (impl_addU_ev s x (by omega)) ih
  have vals : ∀ s, s.length + (vs.map fun x => (txtM x).length).sum ≤ 1000000000 → Ev (fun k => impl_bodyOf.l1 k s vs (vs.length : Int) 0) (s ++ vs.flatMap txtM) := by
    intro s hs
    refine ev_flat (fun k s i => impl_bodyOf.l1 k s vs (vs.length : Int) i) vs txtM (fun s => s) 1000000000 ?_ ?_ s hs
    · intro s _
      refine Ev.step (fun k => by rw [impl_bodyOf.l1]) (ev_neg (by omega) (ev_some rfl))
    · intro s i x r hB hi' hx ih
      refine Ev.step (fun k => by rw [impl_bodyOf.l1]) (ev_pos (by omega) (ev_pos (by omega) (ev_pos (by omega) ?_)))
      rw [show rdOf ByteArray.empty vs (i : Int) = x from getD_at hx, wrap_succ (by omega)]
      exact Ev.bind (txt s x (by omega)) ih
  have keys : ∀ s, s.length + (ks.map fun x => (txtM x).length).sum + (vs.map fun x => (txtM x).length).sum + (ids.map fun x => (uM x).length).sum ≤ 1000000000 → Ev (fun k => impl_bodyOf.l0 k s ks (ks.length : Int) 0 b ks vs ids) (if b = true then (s ++ ks.flatMap txtM) ++ vs.flatMap txtM else (s ++ ks.flatMap txtM) ++ ids.flatMap uM) := by
    intro s hs
    refine ev_flat (fun k s i => impl_bodyOf.l0 k s ks (ks.length : Int) i b ks vs ids) ks txtM (fun s => if b = true then s ++ vs.flatMap txtM else s ++ ids.flatMap uM) (1000000000 - (vs.map fun x => (txtM x).length).sum - (ids.map fun x => (uM x).length).sum) ?_ ?_ s (by omega)
    · intro s hs2
      refine Ev.step (fun k => by rw [impl_bodyOf.l0]) (ev_neg (by omega) (ev_ite (fun h => ?_) (fun h => ?_)))
      · rw [if_pos h]; exact vals s (by omega)
      · rw [if_neg h]; exact kids s (by omega)
    · intro s i x r hB hi' hx ih
      refine Ev.step (fun k => by rw [impl_bodyOf.l0]) (ev_pos (by omega) (ev_pos (by omega) (ev_pos (by omega) ?_)))
      rw [show rdOf ByteArray.empty ks (i : Int) = x from getD_at hx, wrap_succ (by omega)]
      exact Ev.bind (txt s x (by omega)) ih
  have head : ∀ s, s.length ≤ 3 → Ev (fun k => impl_bodyOf.j0 k s b ks vs ids) (if b = true then (s ++ uM ks.length ++ ks.flatMap txtM) ++ vs.flatMap txtM else (s ++ uM ks.length ++ ks.flatMap txtM) ++ ids.flatMap uM) := by
    intro s hs
    have h2 := uM_len ks.length
    refine Ev.step (fun k => by rw [impl_bodyOf.j0]) ?_
    exact Ev.bind (impl_addU_ev _ _ (by omega)) (keys _ (by rw [List.length_append]; omega))
  unfold impl_bodyOf.f nodeB
  refine ev_ite (fun h => ?_) (fun h => ?_)
  · have z := head ([] ++ [1]) (by simp)
    simp only [if_pos h] at z ⊢
    exact ev_pos (by simp) z
  · have z := head ([] ++ [0]) (by simp)
    simp only [if_neg h] at z ⊢
    exact ev_pos (by simp) z

theorem impl_SizeOf_ev (b : Bool) (ks vs : List ByteArray) (ids : List Int) (hk : ks.length + (ks.map ByteArray.size).sum ≤ 1048576) (hv : vs.length + (vs.map ByteArray.size).sum ≤ 1048576) (hi : ids.length ≤ 1048576) :
    Ev (fun k => impl_SizeOf.f k b ks vs ids) ((nodeB b ks vs ids).length : Int) := by
  unfold impl_SizeOf.f
  exact Ev.bind (impl_bodyOf_ev b ks vs ids hk hv hi) (ev_some rfl)

theorem impl_in_eq (a b c : Int) : impl_in.f a b c = some (inB a b c) := by unfold impl_in.f inB; split <;> rfl

theorem impl_isSector_eq (n : Int) : impl_isSector.f n = some (inB n 2 47) := by unfold impl_isSector.f; rw [impl_in_eq]; rfl
theorem impl_NodeOk_ev (b : Bool) (ks vs : List ByteArray) (ids : List Int) (hk : ks.length + (ks.map ByteArray.size).sum ≤ 1048576) (hv : vs.length + (vs.map ByteArray.size).sum ≤ 1048576) (hi : ids.length ≤ 1048576) :
    Ev (fun k => impl_NodeOk.f k b ks vs ids) (nodeOkM b ks vs ids) := by
  have sz := impl_SizeOf_ev b ks vs ids hk hv hi
  have l1 : Ev (fun k => impl_NodeOk.l1 k vs (vs.length : Int) 0 b ks vs ids) (decide (((nodeB b ks vs ids).length : Int) ≤ 240) && (vs.all (fun v => decide ((v.size : Int) ≤ 60)) && decide (1 ≤ ks.length) && decide (vs.length = ks.length) && decide (ids.length = 0))) := by
    have h := ev_all (fun k i => impl_NodeOk.l1 k vs (vs.length : Int) i b ks vs ids) vs (fun v => decide ((v.size : Int) ≤ 60)) (decide (((nodeB b ks vs ids).length : Int) ≤ 240) && (decide (1 ≤ ks.length) && decide (vs.length = ks.length) && decide (ids.length = 0))) ?_ ?_
    · refine ev_eq h ?_
      by_cases c : vs.all (fun v => decide ((v.size : Int) ≤ 60)) = true
      · rw [if_pos c, c, Bool.true_and]
      · rw [if_neg c, Bool.eq_false_iff.2 c, Bool.false_and, Bool.false_and, Bool.false_and, Bool.and_false]
    · refine Ev.step (fun k => by rw [impl_NodeOk.l1]) (ev_neg (by omega) ?_)
      refine ev_ite (fun c => ?_) (fun c => ev_some (by rw [decide_eq_false (show ¬ 1 ≤ ks.length by omega)]; simp))
      rw [decide_eq_true (show 1 ≤ ks.length by omega), Bool.true_and]
      refine ev_ite (fun c => ?_) (fun c => ev_some (by rw [decide_eq_false (show ¬ vs.length = ks.length by omega)]; simp))
      rw [decide_eq_true (show vs.length = ks.length by omega), Bool.true_and]
      refine ev_ite (fun c => ?_) (fun c => ev_some (by rw [decide_eq_false (show ¬ ids.length = 0 by omega)]; simp))
      rw [decide_eq_true (show ids.length = 0 by omega), Bool.and_true]
      exact Ev.bind sz (ev_some rfl)
    · intro i x r hi' hx ih
      refine Ev.step (fun k => by rw [impl_NodeOk.l1]) (ev_pos (by omega) (ev_pos (by omega) (ev_pos (by omega) ?_)))
      rw [show rdOf ByteArray.empty vs (i : Int) = x from getD_at hx, wrap_succ (by omega)]
      refine ev_ite (fun c => ?_) (fun c => ?_)
      · rw [if_neg (by simp only [decide_eq_true_eq]; omega)]; exact ev_some rfl
      · rw [if_pos (by simp only [decide_eq_true_eq]; omega)]; exact ih
  have l2 : Ev (fun k => impl_NodeOk.l2 k ids (ids.length : Int) 0 b ks vs ids) (decide (((nodeB b ks vs ids).length : Int) ≤ 240) && (ids.all (fun n => inB n 2 47) && decide (1 ≤ ids.length) && decide (ks.length + 1 = ids.length) && decide (vs.length = 0))) := by
    have h := ev_all (fun k i => impl_NodeOk.l2 k ids (ids.length : Int) i b ks vs ids) ids (fun n => inB n 2 47) (decide (((nodeB b ks vs ids).length : Int) ≤ 240) && (decide (1 ≤ ids.length) && decide (ks.length + 1 = ids.length) && decide (vs.length = 0))) ?_ ?_
    · refine ev_eq h ?_
      by_cases c : ids.all (fun n => inB n 2 47) = true
      · rw [if_pos c, c, Bool.true_and]
      · rw [if_neg c, Bool.eq_false_iff.2 c, Bool.false_and, Bool.false_and, Bool.false_and, Bool.and_false]
    · refine Ev.step (fun k => by rw [impl_NodeOk.l2]) (ev_neg (by omega) ?_)
      refine ev_ite (fun c => ?_) (fun c => ev_some (by rw [decide_eq_false (show ¬ 1 ≤ ids.length by omega)]; simp))
      rw [decide_eq_true (show 1 ≤ ids.length by omega), Bool.true_and, wrap_id (by omega) (by omega)]
      refine ev_ite (fun c => ?_) (fun c => ev_some (by rw [decide_eq_false (show ¬ ks.length + 1 = ids.length by omega)]; simp))
      rw [decide_eq_true (show ks.length + 1 = ids.length by omega), Bool.true_and]
      refine ev_ite (fun c => ?_) (fun c => ev_some (by rw [decide_eq_false (show ¬ vs.length = 0 by omega)]; simp))
      rw [decide_eq_true (show vs.length = 0 by omega), Bool.and_true]
      exact Ev.bind sz (ev_some rfl)
    · intro i x r hi' hx ih
      refine Ev.step (fun k => by rw [impl_NodeOk.l2]) (ev_pos (by omega) (ev_pos (by omega) (ev_pos (by omega) ?_)))
      rw [show rd ids (i : Int) = x from getD_at hx, wrap_succ (by omega)]
      refine Ev.bind (ev_c (impl_isSector_eq _)) (ev_ite (fun c => ?_) (fun c => ?_))
      · rw [if_pos c]; exact ih
      · rw [if_neg c]; exact ev_some rfl
  unfold impl_NodeOk.f
  have h := ev_listI0 (fun k (_ : Unit) i => impl_NodeOk.l0 k ks (ks.length : Int) i b ks vs ids) ks (fun _ _ => True) (fun _ i r => risingM (if i = 0 then none else ks[i - 1]?) r && (decide (((nodeB b ks vs ids).length : Int) ≤ 240) && (if b = true then vs.all (fun v => decide ((v.size : Int) ≤ 60)) && decide (1 ≤ ks.length) && decide (vs.length = ks.length) && decide (ids.length = 0) else ids.all (fun n => inB n 2 47) && decide (1 ≤ ids.length) && decide (ks.length + 1 = ids.length) && decide (vs.length = 0)))) () trivial ?_ ?_
  · unfold nodeOkM
    rw [Bool.and_assoc]
    exact h
  · intro s hI
    refine Ev.step (fun k => by rw [impl_NodeOk.l0]) (ev_neg (by omega) ?_)
    simp only [risingM, Bool.true_and]
    exact ev_ite (fun h => by rw [if_pos h]; exact l1) (fun h => by rw [if_neg h]; exact l2)
  · intro s i x r hI hi' hx hd ih
    have ih := ih () trivial
    rw [if_neg (show ¬ i + 1 = 0 by omega), show i + 1 - 1 = i by omega, hx] at ih
    refine Ev.step (fun k => by rw [impl_NodeOk.l0]) ?_
    refine ev_pos (by omega) (ev_pos (by omega) (ev_pos (by omega) ?_))
    rw [wrap_succ (by omega), show rdOf ByteArray.empty ks (i : Int) = x from getD_at hx]
    unfold risingM
    refine ev_ite (fun c => by rw [if_pos c, Bool.false_and]; exact ev_some rfl) (fun c => ?_)
    rw [if_neg c]
    by_cases h0 : i = 0
    · subst h0
      exact ev_neg (by omega) ih
    · obtain ⟨y, hy⟩ : ∃ y, ks[i - 1]? = some y := ⟨_, List.getElem?_eq_getElem (by omega)⟩
      rw [if_neg h0, hy]
      have e : wrap64 ((i : Int) - 1) = ((i - 1 : Nat) : Int) := by rw [wrap_id (by omega) (by omega)]; omega
      refine ev_pos (by omega) ?_
      rw [e]
      refine ev_pos (by omega) (ev_pos (by omega) ?_)
      rw [show rdOf ByteArray.empty ks ((i - 1 : Nat) : Int) = y from getD_at hy]
      exact ev_ite (fun c => by simp only [if_pos c]; exact ih) (fun c => by simp only [if_neg c, Bool.false_and]; exact ev_some rfl)

/-- The bytes of a node that is right; nothing of another. -/
def putNM (b : Bool) (ks vs : List ByteArray) (ids : List Int) : List Int := if nodeOkM b ks vs ids = true then nodeB b ks vs ids else []

theorem impl_PutNode_ev (b : Bool) (ks vs : List ByteArray) (ids : List Int) (hk : ks.length + (ks.map ByteArray.size).sum ≤ 1048576) (hv : vs.length + (vs.map ByteArray.size).sum ≤ 1048576) (hi : ids.length ≤ 1048576) :
    Ev (fun k => impl_PutNode.f k b ks vs ids) (putNM b ks vs ids) := by
  unfold impl_PutNode.f putNM
  exact Ev.bind (impl_NodeOk_ev b ks vs ids hk hv hi) (ev_ite (fun h => by rw [if_pos h]; exact Ev.bind (impl_bodyOf_ev b ks vs ids hk hv hi) (ev_some rfl)) (fun h => by rw [if_neg h]; exact ev_some rfl))

theorem impl_GetU_round (b : List Int) (at_ : Nat) (hl : b.length ≤ 1000000000) (ha : at_ ≤ 1000000000) (hb : ∀ x ∈ b, 0 ≤ x ∧ x ≤ 255) : ∀ (d i : Nat) (v : Int), i + d = 3 → 0 ≤ v → v < 128 ^ i → Ev (fun k => impl_GetU.l0 k b (at_ : Int) v (i : Int)) (tripU at_ (getUR d i v (b.drop (at_ + i)))) := by
  intro d
  induction d with
  | zero =>
    intro i v hi h0 h1
    refine Ev.step (fun k => by rw [impl_GetU.l0]) (ev_neg (by omega) (Ev.step (fun k => by rw [impl_GetU.j1]) (ev_neg (by simp) (ev_some (by rfl)))))
  | succ d ih =>
    intro i v hi h0 h1
    have H1 := Aside0.mk h1
    clear h1
    have w1 : wrap64 ((at_ : Int) + i) = ((at_ + i : Nat) : Int) := by rw [wrap_id (by omega) (by omega)]; omega
    refine Ev.step (fun k => by rw [impl_GetU.l0]) (ev_pos (by omega) (ev_pos (by omega) ?_))
    rw [wrap_id (x := (b.length : Int) - i) (by omega) (by omega)]
    by_cases c : at_ + i < b.length
    · refine Ev.step (fun k => by rw [impl_GetU.j1]) (ev_pos (by rw [decide_eq_true]; omega) ?_)
      rw [w1]
      have hx : b[at_ + i]? = some b[at_ + i] := List.getElem?_eq_getElem c
      have hd := List.drop_eq_getElem_cons c
      have hx0 := hb _ (List.getElem_mem c)
      generalize b[at_ + i] = x at hx hd hx0
      rw [hd, rd_at hx, wrap_id (x := x) (by omega) (by omega)]
      have w2 : wrap64 (7 * (i : Int)) = 7 * (i : Int) := wrap_id (by omega) (by omega)
      have w3 : wrap64 ((i : Int) + 1) = ((i + 1 : Nat) : Int) := wrap_succ (by omega)
      have w4 : wrap64 (((at_ + i : Nat) : Int) + 1) = ((at_ + (i + 1) : Nat) : Int) := by rw [wrap_id (by omega) (by omega)]; omega
      rw [w2, w3, w4, Int.tmod_eq_emod_of_nonneg (by omega), shl_at (x % 128) i (by omega) (by omega) (by omega)]
      have f1 : (0 : Int) ≤ ((at_ + i : Nat) : Int) := by omega
      have f2 : ((at_ + i : Nat) : Int) < (b.length : Int) := by omega
      have f3 : (0 : Int) ≤ 7 * (i : Int) := by omega
      have em : x > 127 → x % 128 = x - 128 := fun _ => by omega
      have el : ¬ x > 127 → x % 128 = x := fun _ => by omega
      have hi0 : (i : Int) > 0 ↔ i > 0 := by omega
      have g7 : x ≥ 128 ↔ x > 127 := by omega
      have i3 : i + 1 + d = 3 := by omega
      have BD := Aside0.mk (grp_bd i (by omega) (x % 128) v (by omega) (by omega) h0 H1.out)
      rw [wrap_id (x := v + x % 128 * 128 ^ i) (Int.le_trans (by decide) BD.out.1) (Int.le_trans BD.out.2.2.1 (by decide))]
      refine ev_pos f1 (ev_pos f2 (ev_pos f3 ?_))
      refine ev_ite (fun g => ?_) (fun g => ?_)
      · rw [getUR, if_pos (g7.1 g)]
        rw [em (g7.1 g)] at BD ⊢
        have := ih (i + 1) (v + (x - 128) * 128 ^ i) i3 BD.out.1 BD.out.2.1
        rwa [← Nat.add_assoc] at this
      · rw [getUR, if_neg (fun h => g (g7.2 h))]
        rw [el (fun h => g (g7.2 h))]
        refine ev_ite (fun g2 => ?_) (fun g2 => ?_)
        · refine ev_ite (fun g3 => ?_) (fun g3 => ?_)
          · rw [if_pos ⟨g2, hi0.1 g3⟩]; exact ev_some (by rfl)
          · rw [if_neg (show ¬ (x = 0 ∧ i > 0) from fun h => g3 (hi0.2 h.2))]
            refine ev_ite (fun g4 => ?_) (fun g4 => ?_)
            · rw [if_pos (show v + x * 128 ^ i > 1000000 from g4)]; exact ev_some (by rfl)
            · rw [if_neg (show ¬ v + x * 128 ^ i > 1000000 from g4)]; exact ev_some (by rfl)
        · rw [if_neg (show ¬ (x = 0 ∧ i > 0) from fun h => g2 h.1)]
          refine ev_ite (fun g4 => ?_) (fun g4 => ?_)
          · rw [if_pos (show v + x * 128 ^ i > 1000000 from g4)]; exact ev_some (by rfl)
          · rw [if_neg (show ¬ v + x * 128 ^ i > 1000000 from g4)]; exact ev_some (by rfl)
    · have hd : b.drop (at_ + i) = [] := List.drop_eq_nil_of_le (by omega)
      rw [hd, getUR]
      exact Ev.step (fun k => by rw [impl_GetU.j1]) (ev_neg (by rw [decide_eq_true_iff]; omega) (ev_some (by rfl)))
theorem impl_GetU_ev (b : List Int) (at_ : Nat) (hl : b.length ≤ 1000000000) (ha : at_ ≤ 1000000000) (hb : ∀ x ∈ b, 0 ≤ x ∧ x ≤ 255) : Ev (fun k => impl_GetU.f k b (at_ : Int)) (tripU at_ (getUM (b.drop at_))) := by
  unfold impl_GetU.f
  exact impl_GetU_round b at_ hl ha hb 3 0 0 (by omega) (by omega) (by simp)

theorem impl_GetText_ev (b : List Int) (at_ : Nat) (hl : b.length ≤ 1000000000) (ha : at_ ≤ b.length) (hb : ∀ x ∈ b, 0 ≤ x ∧ x ≤ 255) : Ev (fun k => impl_GetText.f k b (at_ : Int)) (tripT at_ (getTextM (b.drop at_))) := by
  have hbd : ∀ x ∈ b.drop at_, 0 ≤ x ∧ x ≤ 255 := fun x hx => hb x (List.mem_of_mem_drop hx)
  have hu := impl_GetU_ev b at_ hl (by omega) hb
  unfold impl_GetText.f getTextM
  cases hg : getUM (b.drop at_) with
  | none =>
    rw [hg] at hu
    have hu2 : Ev (fun k => impl_GetU.f k b (at_ : Int)) ((0, 0, false) : Int × Int × Bool) := hu
    exact Ev.bind hu2 (ev_neg (by simp) (ev_some (by rfl)))
  | some p =>
    obtain ⟨n, c⟩ := p
    have ⟨n0, n1, cl, c1, _, _⟩ := getUM_exact hbd hg
    rw [List.length_drop] at cl
    rw [hg] at hu
    have hu2 : Ev (fun k => impl_GetU.f k b (at_ : Int)) ((n, ((at_ + c : Nat) : Int), true) : Int × Int × Bool) := hu
    refine Ev.bind hu2 (ev_pos rfl ?_)
    dsimp only
    rw [wrap_id (x := (b.length : Int) - ((at_ + c : Nat) : Int)) (by omega) (by omega), wrap_id (x := ((at_ + c : Nat) : Int) + n) (by omega) (by omega), List.length_drop]
    refine ev_ite (fun g => ?_) (fun g => ?_)
    · rw [if_pos (show n > ((b.length - at_ : Nat) : Int) - c by omega)]; exact ev_some (by rfl)
    · rw [if_neg (show ¬ n > ((b.length - at_ : Nat) : Int) - c by omega)]
      refine ev_pos (by omega) (ev_pos (by omega) (ev_pos (by omega) (ev_some ?_)))
      have e : (((at_ + c : Nat) : Int) + n).toNat = at_ + c + n.toNat := by omega
      rw [e, Int.toNat_natCast, List.drop_take, List.drop_drop]
      simp only [tripT]
      rw [show at_ + c + n.toNat - (at_ + c) = n.toNat by omega, show ((at_ + (c + n.toNat) : Nat) : Int) = ((at_ + c : Nat) : Int) + n by omega]

theorem one_more (vs : List ByteArray) : (vs ++ [(⟨#[]⟩ : ByteArray)]).length + ((vs ++ [(⟨#[]⟩ : ByteArray)]).map ByteArray.size).sum = vs.length + 1 + (vs.map ByteArray.size).sum := by
  simp only [List.length_append, List.length_singleton, List.map_append, List.map_cons, List.map_nil, List.sum_append, List.sum_cons, List.sum_nil]
  show _ + 1 + (_ + (0 + 0)) = _
  omega
theorem impl_GetNode_ev (b : List Int) (hl : b.length ≤ 1048576) (hb : ∀ x ∈ b, 0 ≤ x ∧ x ≤ 255) : Ev (fun k => impl_GetNode.f k b) (getNM b) := by
  have bad2 : ∀ (n i : Int) (a : Int) (l : Bool) (ks vs : List ByteArray) (ids : List Int), ks.length + (ks.map ByteArray.size).sum ≤ 1048576 → vs.length + (vs.map ByteArray.size).sum ≤ 1048576 → ids.length ≤ 1048576 → Ev (fun k => impl_GetNode.l2 k b a false n i l ks vs ids) badN := fun n i a l ks vs ids hk hv hi =>
    Ev.step (fun k => by rw [impl_GetNode.l2]) (ev_neg (by simp) (Ev.bind (impl_PutNode_ev l ks vs ids hk hv hi) (ev_some rfl)))
  have bad1 : ∀ (n i : Int) (a : Int) (l : Bool) (ks vs : List ByteArray), ks.length + (ks.map ByteArray.size).sum ≤ 1048576 → vs.length + (vs.map ByteArray.size).sum ≤ 1048576 → Ev (fun k => impl_GetNode.l1 k b a false n i l ks vs) badN := fun n i a l ks vs hk hv => by
    have j : Ev (fun k => impl_GetNode.j4 k b a false n l ks vs) badN := Ev.step (fun k => by rw [impl_GetNode.j4]) (bad2 _ _ _ _ _ _ _ hk hv (Nat.zero_le _))
    refine Ev.step (fun k => by rw [impl_GetNode.l1]) ?_
    exact ev_neg (by simp) j
  have bad0 : ∀ (n i : Int) (a : Int) (l : Bool) (ks : List ByteArray), ks.length + (ks.map ByteArray.size).sum ≤ 1048576 → Ev (fun k => impl_GetNode.l0 k b a false n i l ks) badN := fun n i a l ks hk => by
    have j : Ev (fun k => impl_GetNode.j2 k b a false n l ks) badN := Ev.step (fun k => by rw [impl_GetNode.j2]) (bad1 _ _ _ _ _ _ hk (Nat.zero_le _))
    refine Ev.step (fun k => by rw [impl_GetNode.l0]) ?_
    exact ev_neg (by simp) j
  have badj : ∀ (leaf n : Int) (a : Int), Ev (fun k => impl_GetNode.j0 k b leaf a false n) badN := fun leaf n a => Ev.step (fun k => by rw [impl_GetNode.j0]) (bad0 _ _ _ _ _ (Nat.zero_le _))
  -- the end
  have fin : ∀ (n i a : Int) (l : Bool) (ks vs : List ByteArray) (ids r : List Int), b = nodeB l ks vs ids ++ r → (l = false → ¬ i ≤ n) → ks.length + (ks.map ByteArray.size).sum ≤ 1048576 → vs.length + (vs.map ByteArray.size).sum ≤ 1048576 → ids.length ≤ 1048576 →
      Ev (fun k => impl_GetNode.l2 k b a true n i l ks vs ids) (finN l ks vs ids r) := by
    intro n i a l ks vs ids r hbb hln hk hv hi
    have tail : Ev (fun k => (impl_PutNode.f k l ks vs ids).bind fun t => (if (t.length : Int) = 0 then (some (false, ([] : List ByteArray), ([] : List ByteArray), ([] : List Int), false)) else (if (strOfNums t).toList = (strOfNums b).toList then (some (l, ks, vs, ids, true)) else (some (false, ([] : List ByteArray), ([] : List ByteArray), ([] : List Int), false))))) (finN l ks vs ids r) := by
      refine Ev.bind (impl_PutNode_ev l ks vs ids hk hv hi) ?_
      have nb : ∀ x ∈ nodeB l ks vs ids, 0 ≤ x ∧ x ≤ 255 := fun x hx => hb x (by rw [hbb]; exact List.mem_append_left _ hx)
      have nl : 1 ≤ (nodeB l ks vs ids).length := by
        have u := uM_len (if l = true then 1 else 0)
        unfold nodeB
        cases l <;> simp at u ⊢ <;> omega
      unfold finN putNM
      by_cases ok : nodeOkM l ks vs ids = true
      · rw [if_pos ok]
        refine ev_neg (by omega) (ev_ite (fun h => ?_) (fun h => ?_))
        · have e := (strOf_eq nb hb).1 h
          have r0 : r = [] := by
            have l2 := congrArg List.length hbb
            have l3 := congrArg List.length e
            rw [List.length_append] at l2
            exact List.length_eq_zero_iff.1 (by omega)
          rw [if_pos (show r = [] ∧ nodeOkM l ks vs ids = true from ⟨r0, ok⟩)]
          exact ev_some rfl
        · rw [if_neg (fun q : r = [] ∧ nodeOkM l ks vs ids = true => h ((strOf_eq nb hb).2 (by rw [hbb, q.1, List.append_nil])))]
          exact ev_some rfl
      · rw [if_neg ok, if_neg (fun q : r = [] ∧ nodeOkM l ks vs ids = true => ok q.2)]
        exact ev_pos rfl (ev_some rfl)
    refine Ev.step (fun k => by rw [impl_GetNode.l2]) ?_
    refine ev_pos rfl ?_
    cases l with
    | true => exact ev_pos rfl tail
    | false => exact ev_neg (by simp) (ev_neg (hln rfl) tail)
  have sz0 : ∀ ids : List Int, (ids.map fun _ => 0).sum = 0 := fun ids => by induction ids with
    | nil => rfl
    | cons x t ih => simp [ih]
  -- behind the keys
  have rest : ∀ (a n : Nat) (l : Bool) (ks : List ByteArray), a ≤ b.length → n ≤ 240 → b.length ≤ 240 → ks.length = n → b = (uM (if l = true then 1 else 0) ++ uM n ++ ks.flatMap txtM) ++ b.drop a → ks.length + (ks.map ByteArray.size).sum ≤ 1000 → Ev (fun k => impl_GetNode.j2 k b (a : Int) true (n : Int) l ks) (restN l n ks (b.drop a)) := by
    intro a n l ks ha hn h240 hkn hp hk
    refine Ev.step (fun k => by rw [impl_GetNode.j2]) ?_
    unfold restN
    cases l with
    | true =>
      rw [if_pos rfl]
      refine ev_reads b hb getTextM txtM ByteArray.size text_g _ n (fun k a vs i => impl_GetNode.l1 k b (a : Int) true (n : Int) i true ks vs) badN (fun vs r => finN true ks vs [] r) ?_ ?_ ?_ n 0 a [] (by omega) rfl ha (by rw [List.flatMap_nil, List.append_nil]; exact hp) (Nat.zero_le _) _ (by generalize readsM _ _ _ = z; rcases z with _ | ⟨x, y⟩ <;> rfl)
      · intro a vs ha hb2 hl2 hs
        refine Ev.step (fun k => by rw [impl_GetNode.l1]) ?_
        refine ev_pos rfl (ev_pos rfl (ev_neg (by omega) ?_))
        refine Ev.step (fun k => by rw [impl_GetNode.j4]) ?_
        exact fin _ _ _ true ks vs [] _ (by rw [← hkn] at hb2; unfold nodeB; simp only [if_pos] at hb2 ⊢; exact hb2) (fun h => by cases h) (by omega) (by omega) (Nat.zero_le _)
      · intro a vs i ha hi hx hs hg
        have t := impl_GetText_ev b a (by omega) ha hb
        rw [hg] at t
        refine Ev.step (fun k => by rw [impl_GetNode.l1]) ?_
        refine ev_pos rfl (ev_pos rfl (ev_pos (by omega) (Ev.bind t (ev_pos (by omega) ?_))))
        exact bad1 _ _ _ _ _ _ (by omega) (by have := one_more vs; simp only [tripT] at this ⊢; omega)
      · intro a vs i x c R ha hi hx hs hc hg ih
        have t := impl_GetText_ev b a (by omega) ha hb
        rw [hg] at t
        refine Ev.step (fun k => by rw [impl_GetNode.l1]) ?_
        refine ev_pos rfl (ev_pos rfl (ev_pos (by omega) (Ev.bind t (ev_pos (by omega) ?_))))
        rw [wrap_succ (by omega)]
        exact ih
    | false =>
      rw [if_neg (by simp)]
      refine Ev.step (fun k => by rw [impl_GetNode.l1]) ?_
      refine ev_pos rfl (ev_neg (by simp) ?_)
      refine Ev.step (fun k => by rw [impl_GetNode.j4]) ?_
      refine ev_reads b hb getUM uM (fun _ => 0) num_g _ (n + 1) (fun k a ids i => impl_GetNode.l2 k b (a : Int) true (n : Int) i false ks [] ids) badN (fun ids r => finN false ks [] ids r) ?_ ?_ ?_ (n + 1) 0 a [] (by omega) rfl ha (by rw [List.flatMap_nil, List.append_nil]; exact hp) (Nat.zero_le _) _ (by generalize readsM _ _ _ = z; rcases z with _ | ⟨x, y⟩ <;> rfl)
      · intro a ids ha hb2 hl2 hs
        rw [sz0] at hs
        exact fin _ _ _ false ks [] ids _ (by rw [← hkn] at hb2; unfold nodeB; simp only [if_neg Bool.false_ne_true] at hb2 ⊢; exact hb2) (fun _ => by omega) (by omega) (Nat.zero_le _) (by omega)
      · intro a ids i ha hi hx hs hg
        have t := impl_GetU_ev b a (by omega) (by omega) hb
        rw [hg] at t
        rw [sz0] at hs
        refine Ev.step (fun k => by rw [impl_GetNode.l2]) ?_
        exact ev_pos rfl (ev_neg (by simp) (ev_pos (by omega) (Ev.bind t (ev_pos (by omega) (bad2 _ _ _ _ _ _ _ (by omega) (Nat.zero_le _) (by rw [List.length_append, List.length_singleton]; omega))))))
      · intro a ids i x c R ha hi hx hs hc hg ih
        have t := impl_GetU_ev b a (by omega) (by omega) hb
        rw [hg] at t
        refine Ev.step (fun k => by rw [impl_GetNode.l2]) ?_
        refine ev_pos rfl (ev_neg (by simp) (ev_pos (by omega) (Ev.bind t (ev_pos (by omega) ?_))))
        rw [wrap_succ (by omega)]
        exact ih
  -- the whole
  unfold impl_GetNode.f
  refine ev_ite (fun h => by rw [getNM_long b hb h]; exact ev_some rfl) (fun h240 => ?_)
  have t0 := impl_GetU_ev b 0 (by omega) (by omega) hb
  rw [List.drop_zero] at t0
  unfold getNM
  cases h0 : getUM b with
  | none =>
    rw [h0] at t0
    have t1 := impl_GetU_ev b 0 (by omega) (by omega) hb
    rw [List.drop_zero] at t1
    have t0' : Ev (fun k => impl_GetU.f k b 0) ((0, 0, false) : Int × Int × Bool) := t0
    rw [h0] at t1
    have t1' : Ev (fun k => impl_GetU.f k b 0) ((0, 0, false) : Int × Int × Bool) := t1
    exact Ev.bind t0' (Ev.bind t1' (ev_neg (by simp) (badj ..)))
  | some p =>
    obtain ⟨leaf, c⟩ := p
    have ⟨g0, g1, g2, g3, _, g4⟩ := getUM_exact hb h0
    rw [h0] at t0
    have t0' : Ev (fun k => impl_GetU.f k b 0) ((leaf, ((c : Nat) : Int), true) : Int × Int × Bool) := by rw [show (c : Nat) = 0 + c by omega]; exact t0
    have t1 := impl_GetU_ev b c (by omega) (by omega) hb
    simp only
    cases h1 : getUM (b.drop c) with
    | none =>
      rw [h1] at t1
      have t1' : Ev (fun k => impl_GetU.f k b (c : Int)) ((0, 0, false) : Int × Int × Bool) := t1
      exact Ev.bind t0' (Ev.bind t1' (ev_pos rfl (ev_neg (by simp) (badj ..))))
    | some p =>
      obtain ⟨n, c2⟩ := p
      have ⟨n0, n1, n2, n3, _, n4⟩ := getUM_exact (fun x hx => hb x (List.mem_of_mem_drop hx)) h1
      rw [List.length_drop] at n2
      rw [h1] at t1
      have t1' : Ev (fun k => impl_GetU.f k b (c : Int)) ((n, ((c + c2 : Nat) : Int), true) : Int × Int × Bool) := t1
      have hin : impl_in.f leaf 0 1 = some (inB leaf 0 1) := impl_in_eq ..
      refine Ev.bind t0' (Ev.bind t1' (ev_pos rfl (ev_pos rfl (Ev.bind (ev_c hin) ?_))))
      simp only
      refine ev_ite (fun hi => ?_) (fun hi => ?_)
      · have hi2 := (inB_iff.1 hi).2
        rw [if_neg (by omega)]
        by_cases hn : n ≤ 240
        · rw [decide_eq_true hn]
          refine Ev.step (fun k => by rw [impl_GetNode.j0]) ?_
          have en : ((n.toNat : Nat) : Int) = n := by omega
          have e1 : uM leaf = uM (if (leaf == 1) = true then 1 else 0) := by
            by_cases q : leaf = 1
            · rw [q]; rfl
            · rw [if_neg (by simpa using q), show leaf = 0 by omega]
          have pp : b = (uM (if (leaf == 1) = true then 1 else 0) ++ uM n) ++ b.drop (c + c2) := by
            rw [List.append_assoc, ← List.drop_drop, ← n4, ← e1]; exact g4
          refine ev_reads b hb getTextM txtM ByteArray.size text_g _ n.toNat (fun k a ks i => impl_GetNode.l0 k b (a : Int) true n i (leaf == 1) ks) badN (fun ks r => restN (leaf == 1) n.toNat ks r) ?_ ?_ ?_ n.toNat 0 (c + c2) [] (by omega) rfl (by omega) (by rw [List.flatMap_nil, List.append_nil]; exact pp) (Nat.zero_le _) _ (by generalize readsM _ _ _ = z; rcases z with _ | ⟨x, y⟩ <;> rfl)
          · intro a ks ha hb2 hl2 hs
            have r := rest a n.toNat (leaf == 1) ks ha (by omega) (by omega) hl2 (by rw [en]; exact hb2) (by omega)
            rw [en] at r
            refine Ev.step (fun k => by rw [impl_GetNode.l0]) ?_
            exact ev_pos rfl (ev_neg (by omega) r)
          · intro a ks i ha hi hx hs hg
            have t := impl_GetText_ev b a (by omega) ha hb
            rw [hg] at t
            refine Ev.step (fun k => by rw [impl_GetNode.l0]) ?_
            refine ev_pos rfl (ev_pos (by omega) (Ev.bind t (ev_pos (by omega) ?_)))
            exact bad0 _ _ _ _ _ (by have := one_more ks; simp only [tripT] at this ⊢; omega)
          · intro a ks i x c R ha hi hx hs hc hg ih
            have t := impl_GetText_ev b a (by omega) ha hb
            rw [hg] at t
            refine Ev.step (fun k => by rw [impl_GetNode.l0]) ?_
            refine ev_pos rfl (ev_pos (by omega) (Ev.bind t (ev_pos (by omega) ?_)))
            rw [wrap_succ (by omega)]
            exact ih
        · rw [decide_eq_false hn]
          have e : readsM getTextM n.toNat (b.drop (c + c2)) = none := by
            cases hk : readsM getTextM n.toNat (b.drop (c + c2)) with
            | none => rfl
            | some p =>
              obtain ⟨ks, r⟩ := p
              have ⟨k1, k2, k3⟩ := readsM_len (fun r hr x c h => ⟨(text_g r hr x c h).1, by have := (text_g r hr x c h).2.2; omega⟩) _ _ (fun x hx => hb x (List.mem_of_mem_drop hx)) _ _ hk
              rw [List.length_drop] at k2
              omega
          rw [e]
          exact badj ..
      · rw [if_pos (by
          by_cases q : leaf > 1
          · exact q
          · exact absurd (inB_iff.2 ⟨g0, by omega⟩) hi)]
        exact badj ..

theorem laws_heldStringS_ev (n : Nat) (m : Int) (h0 : 0 ≤ m) (h1 : m ≤ 1000000000) (hs : n ≤ 1000000000) : Ev (fun k => laws_heldStringS.f k (markStr m n) m) (m + n) := by
  unfold laws_heldStringS.f
  have hl := markStr_len n m
  have h := ev_listI0 (fun k (s : Int) i => laws_heldStringS.l0 k (markStr m n) s i) (markStr m n) (fun s i => s = m + i) (fun _ _ _ => m + (n : Int)) m (by simp) ?_ ?_
  · exact h
  · intro s hm
    refine Ev.step (fun k => by rw [laws_heldStringS.l0]) ?_
    refine ev_neg (by omega) (ev_some ?_)
    rw [hm, hl]
  · intro s i x r hm hi hx hd ih
    refine Ev.step (fun k => by rw [laws_heldStringS.l0]) ?_
    have hx2 := markStr_at n m i (by omega)
    refine ev_pos (by omega) (ev_pos (by omega) (Ev.bind (laws_markText_ev _ (by omega)) ?_))
    rw [show rdOf ByteArray.empty (markStr m n) (i : Int) = _ from getD_at hx2, hm]
    refine ev_pos rfl ?_
    rw [wrap_succ (by omega), wrap_id (x := m + (i : Int) + 1) (by omega) (by omega)]
    exact ih _ (by omega)

theorem laws_heldIntS_ev (n : Nat) (m : Int) (h0 : 0 ≤ m) (h1 : m ≤ 1000000000) (hs : n ≤ 1000000000) : Ev (fun k => laws_heldIntS.f k (markI m n) m) (m + n) := by
  unfold laws_heldIntS.f
  have hl := markI_len n m
  have h := ev_listI0 (fun k (s : Int) i => laws_heldIntS.l0 k (markI m n) s i) (markI m n) (fun s i => s = m + i) (fun _ _ _ => m + (n : Int)) m (by simp) ?_ ?_
  · exact h
  · intro s hm
    refine Ev.step (fun k => by rw [laws_heldIntS.l0]) ?_
    refine ev_neg (by omega) (ev_some ?_)
    rw [hm, hl]
  · intro s i x r hm hi hx hd ih
    refine Ev.step (fun k => by rw [laws_heldIntS.l0]) ?_
    have hx2 := markI_at n m i (by omega)
    refine ev_pos (by omega) (ev_pos (by omega) ?_)
    rw [show rd (markI m n) (i : Int) = _ from getD_at hx2, hm]
    refine ev_pos rfl ?_
    rw [wrap_succ (by omega), wrap_id (x := m + (i : Int) + 1) (by omega) (by omega)]
    exact ih _ (by omega)

theorem laws_heldNode_ev (b : Bool) (a c d : Nat) (m : Int) (h0 : 0 ≤ m) (h1 : m ≤ 10) (ha : a ≤ 1048576) (hc : c ≤ 1048576) (hd : d ≤ 1048576) :
    Ev (fun k => laws_heldNode.f k b (markStr m a) (markStr (m + a) c) (markI (m + a + c) d) m) (m + a + c + d) := by
  unfold laws_heldNode.f
  refine Ev.bind (laws_heldStringS_ev a m h0 (by omega) (by omega)) (ev_neg (by omega) ?_)
  refine Ev.bind (laws_heldStringS_ev c _ (by omega) (by omega) (by omega)) (ev_neg (by omega) ?_)
  exact Ev.bind (laws_heldIntS_ev d _ (by omega) (by omega) (by omega)) (ev_neg (by omega) (ev_some rfl))

theorem FnExactGetNode : ∀ (l0 : List Int), (l0.length * 1 ≤ 140737488351232 ∧ ∀ e0 ∈ l0, (0 ≤ e0 ∧ e0 ≤ 255)) → ∃ k, laws_FnExactGetNode.f k l0 = some true := by
  intro b hb0
  have hb : ∀ x ∈ b, 0 ≤ x ∧ x ≤ 255 := hb0.2
  refine Ev.rounds ?_
  unfold laws_FnExactGetNode.f
  refine ev_ite (fun _ => ev_some rfl) (fun h0 => ?_)
  have c2 : b.length ≤ 1048576 := by omega
  have p2 : Ev (fun k => laws_toByteS.f k b) b := laws_toByteS_ev b c2
  have sp := spec_GetNode_ev b c2 hb
  have im := impl_GetNode_ev b c2 hb
  have ⟨d1, d2, d3⟩ := getNM_len b c2 hb
  generalize getNM b = D at sp im d1 d2 d3
  obtain ⟨l, ks, vs, ids, ok⟩ := D
  simp only at d1 d2 d3
  have e1 := laws_eqNode_self l ks vs ids (by omega) (by omega) (by omega)
  refine Ev.bind p2 (Ev.bind sp (Ev.bind p2 (Ev.bind im (Ev.bind e1 (ev_pos rfl ?_)))))
  refine Ev.step (fun k => by rw [laws_FnExactGetNode.j0]) (ev_neg (by simp) ?_)
  refine Ev.bind p2 (Ev.bind (laws_eqByteS_self b (by omega)) (ev_pos rfl ?_))
  refine Ev.bind (laws_markByteS_ev b 1 (by omega) (by omega) (by omega)) (ev_neg (by simp only; omega) (Ev.bind e1 (ev_pos rfl ?_)))
  refine Ev.step (fun k => by rw [laws_FnExactGetNode.j1]) (ev_neg (by simp) ?_)
  refine Ev.bind (laws_markNode_ev l ks vs ids 1 (by omega) (by omega) (by omega) (by omega) (by omega)) ?_
  have hh := laws_heldNode_ev l ks.length vs.length ids.length 1 (by omega) (by omega) (by omega) (by omega) (by omega)
  refine Ev.bind hh (ev_neg (by omega) (ev_pos rfl ?_))
  refine Ev.bind p2 (Ev.bind im (Ev.bind e1 (ev_pos rfl ?_)))
  refine Ev.step (fun k => by rw [laws_FnExactGetNode.j2]) (ev_neg (by simp) ?_)
  exact Ev.bind hh (ev_neg (by omega) (ev_pos rfl (ev_some rfl)))

end Go.Proofs.Ytllgmgpfdnofmaa.Pure
