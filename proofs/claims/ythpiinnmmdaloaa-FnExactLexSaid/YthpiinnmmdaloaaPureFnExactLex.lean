/- The law FnExactLex in plain words: what the printed functions answer, and that the two agree. Its conditions: the bounds that memory sets. -/
import Derived.Test.YthpiinnmmdaloaaPFnExactLexx4
import Derived.Test.YthpiinnmmdaloaaKit
import Derived.Test.YthpiinnmmdaloaaKitB
namespace Go.Proofs.Ythpiinnmmdaloaa.Pure
open Go.RowKit Go.Proofs.Ythpiinnmmdaloaa.PFnExactLex Go.Proofs.YthpiinnmmdaloaaW.PrintWords Go.Proofs.YthpiinnmmdaloaaW.PrintLast Go.Proofs.YthpiinnmmdaloaaW.PrintMore Go.Proofs.Ythpiinnmmdaloaa.Kit Go.Proofs.Ythpiinnmmdaloaa.KitB

theorem laws_eqTokenS_self (l : List (S26)) (hs : l.length ≤ 281474976710656) : Ev (fun k => laws_eqTokenS.f k l l) true := by
  unfold laws_eqTokenS.f
  refine ev_pos rfl ?_
  refine ev_pass (fun k i => laws_eqTokenS.l0 k l l i) l true ?_ ?_
  · refine Ev.step (fun k => by rw [laws_eqTokenS.l0]) ?_
    exact ev_neg (by omega) (ev_some rfl)
  · intro i x hi hx ih
    refine Ev.step (fun k => by rw [laws_eqTokenS.l0]) ?_
    refine ev_pos (by omega) (ev_pos (by omega) (ev_pos (by omega) ?_))
    rw [wrap_succ (by omega)]
    refine Ev.bind (ev_c (show laws_eqToken.f _ _ _ _ = some true from by unfold laws_eqToken.f; simp)) ?_
    exact ev_pos rfl ih

theorem spec_l1In_eq (a b c : Int) : spec_l1In.f a b c = some (inB a b c) := by unfold spec_l1In.f inB; split <;> rfl

theorem spec_l8Small_eq (c : Int) (h : 0 ≤ c ∧ c ≤ 255) : spec_l8Small.f c = some (inB c 97 122) := by
  unfold spec_l8Small.f
  rw [wrap_id (by omega) (by omega), spec_l1In_eq]; rfl

theorem spec_l2Digit_eq (c : Int) (h : 0 ≤ c ∧ c ≤ 255) : spec_l2Digit.f c = some (inB c 48 57) := by
  unfold spec_l2Digit.f
  rw [wrap_id (by omega) (by omega), spec_l1In_eq]; rfl

theorem spec_l8Name_ev (s : ByteArray) (hs : s.size ≤ 140737488351232) : Ev (fun k => spec_l8Name.f k s) (nameM s.size 0 (bytesOf s)) := by
  refine ev_list0 (fun k i => spec_l8Name.l0 k s i) (bytesOf s) (nameM s.size) ?_ ?_
  · refine Ev.step (fun k => by rw [spec_l8Name.l0]) ?_
    refine ev_neg (by rw [size_len]; omega) ?_
    exact Ev.bind (ev_c (spec_l1In_eq _ _ _)) (ev_some rfl)
  · intro i x r hi hx hd ih
    have hb := bt_at' hx
    have hr := bt_range s (i : Int)
    refine Ev.step (fun k => by rw [spec_l8Name.l0]) ?_
    refine ev_pos (by rw [size_len]; omega) (ev_pos (by omega) ?_)
    rw [wrap_succ (by rw [bytesOf_length] at hi; omega)]
    rw [hb] at hr ⊢
    refine Ev.bind (ev_c (spec_l8Small_eq _ hr)) ?_
    unfold nameM
    by_cases c1 : inB x 97 122 = true
    · rw [if_pos c1]; exact ev_pos c1 ih
    · rw [if_neg c1]
      refine ev_neg c1 ?_
      by_cases c2 : i = 0
      · rw [if_pos c2]; exact ev_pos (by omega) (ev_some rfl)
      · rw [if_neg c2]
        refine ev_neg (by omega) (Ev.bind (ev_c (spec_l2Digit_eq _ hr)) ?_)
        by_cases c3 : inB x 48 57 = true
        · rw [if_pos c3]; exact ev_pos c3 ih
        · rw [if_neg c3]; exact ev_neg c3 (ev_some rfl)

theorem spec_l8Mark_eq (s : ByteArray) : spec_l8Mark.f s = some (markM (bytesOf s)) := by
  unfold spec_l8Mark.f markM
  have e1 := toList_one s 123
  have e2 := toList_one s 125
  have e3 := toList_one s 44
  have e4 := toList_one s 59
  have e5 : (s.toList == ([59] : List UInt8)) = decide (bytesOf s = [59]) := by rw [Bool.eq_iff_iff]; simp only [beq_iff_eq, decide_eq_true_eq]; exact e4
  rw [e5]
  simp only [e1, e2, e3]
  by_cases h1 : bytesOf s = [123] <;> by_cases h2 : bytesOf s = [125] <;> by_cases h3 : bytesOf s = [44] <;> simp [h1, h2, h3]

theorem spec_TokenOk_ev (a : Int) (s : ByteArray) (hs : s.size ≤ 140737488351232) : Ev (fun k => spec_TokenOk.f k a s) (tokM a (bytesOf s)) := by
  unfold spec_TokenOk.f tokM
  refine ev_ite (fun h => ?_) (fun h => ?_)
  · rw [if_pos h]
    refine Ev.bind (spec_l8Name_ev s hs) (ev_some ?_)
    rw [bytesOf_length]
  · rw [if_neg h]
    refine ev_ite (fun h2 => ?_) (fun h2 => ?_)
    · rw [if_pos h2]; exact Ev.bind (ev_c (spec_l8Mark_eq s)) (ev_some rfl)
    · rw [if_neg h2]; exact ev_some rfl

/-- How many bytes, from here on, are letters or digits. -/
def runM : List Int → Nat
  | [] => 0
  | c :: r => if inB c 97 122 = true then runM r + 1 else if inB c 48 57 = true then runM r + 1 else 0
theorem runM_le : ∀ l, runM l ≤ l.length
  | [] => Nat.le_refl _
  | c :: r => by
    have := runM_le r
    simp only [runM, List.length_cons]
    split
    · omega
    · split <;> omega
def blankM (c : Int) : Bool := if c = 32 then true else if c = 9 then true else if c = 10 then true else c == 13
/-- What is told of the text s from its i-th byte on (n: how many rounds at most), behind the tokens t. -/
def lexM (s : ByteArray) : Nat → Nat → List (S26) → List (S26) × Int
  | 0, i, t => if i = s.size then (t, -1) else ([], i)
  | n + 1, i, t =>
    match (bytesOf s)[i]? with
    | none => (t, -1)
    | some c =>
      if blankM c = true then lexM s n (i + 1) t else
      let e := if inB c 97 122 = true then i + 1 + runM ((bytesOf s).drop (i + 1)) else i + 1
      let k : Int := if inB c 97 122 = true then 1 else 2
      if tokM k (bytesOf (s.extract i e)) = true then (if (t.length : Int) = 500 then ([], (i : Int)) else lexM s n e (t ++ [⟨k, s.extract i e⟩])) else ([], (i : Int))
theorem lexM_end (s : ByteArray) (n i : Nat) (t : List (S26)) (h : i = s.size) : lexM s n i t = (t, -1) := by
  cases n with
  | zero => simp only [lexM]; rw [if_pos h]
  | succ n =>
    have e : (bytesOf s)[i]? = none := List.getElem?_eq_none (by rw [bytesOf_length]; omega)
    simp only [lexM, e]
theorem extract_size (s : ByteArray) (i e : Nat) (h1 : i ≤ e) (h2 : e ≤ s.size) : (s.extract i e).size = e - i := by rw [ByteArray.size_extract]; omega
theorem lex_blank (c : Int) {α : Type} (g : Nat → Bool → Option α) (r : α) (h : ∀ b, b = blankM c → Ev (fun k => g k b) r) :
    Ev (fun k => if c = 32 then g k true else (if c = 9 then g k true else (if c = 10 then g k true else g k (c == 13)))) r := by
  unfold blankM at h
  refine ev_ite (fun c1 => h _ (by rw [if_pos c1])) (fun c1 => ?_)
  refine ev_ite (fun c2 => h _ (by rw [if_neg c1, if_pos c2])) (fun c2 => ?_)
  refine ev_ite (fun c3 => h _ (by rw [if_neg c1, if_neg c2, if_pos c3])) (fun c3 => ?_)
  exact h _ (by rw [if_neg c1, if_neg c2, if_neg c3])
theorem spec_Lex_from (s : ByteArray) (hs : s.size ≤ 1048576) : ∀ (n i : Nat) (t : List (S26)), s.size - i ≤ n → i ≤ s.size → t.length ≤ 500 → Ev (fun k => spec_Lex.l0 k s t (i : Int)) (lexM s n i t) := by
  intro n
  induction n with
  | zero =>
    intro i t hn hi ht
    rw [lexM_end s 0 i t (by omega)]
    exact Ev.step (fun k => by rw [spec_Lex.l0]) (ev_neg (by omega) (ev_some rfl))
  | succ n ih =>
    intro i t hn hi ht
    by_cases hend : i = s.size
    · rw [lexM_end s _ i t hend]
      exact Ev.step (fun k => by rw [spec_Lex.l0]) (ev_neg (by omega) (ev_some rfl))
    · have hlt : i < (bytesOf s).length := by rw [bytesOf_length]; omega
      obtain ⟨c, hc⟩ : ∃ c, (bytesOf s)[i]? = some c := ⟨_, List.getElem?_eq_getElem hlt⟩
      have hb := bt_at' hc
      have hr := bt_range s (i : Int)
      rw [hb] at hr
      refine Ev.step (fun k => by rw [spec_Lex.l0]) (ev_pos (by omega) (ev_pos (by omega) ?_))
      rw [hb]
      refine lex_blank c (fun k b => spec_Lex.j1 k s t (i : Int) c b) _ (fun b hbb => ?_)
      refine Ev.step (fun k => by rw [spec_Lex.j1]) ?_
      rw [wrap_succ (by omega)]
      simp only [lexM, hc]
      rw [hbb]
      refine ev_ite (fun h => ?_) (fun h => ?_)
      · rw [if_pos h]; exact ih (i + 1) t (by omega) (by omega) ht
      rw [if_neg h]
      -- a token that ends at e, of kind k0
      have tail : ∀ (e : Nat) (k0 : Int), i < e → e ≤ s.size → Ev (fun k => if 0 ≤ (i : Int) then (if (i : Int) ≤ (e : Int) then (if (e : Int) ≤ (s.size : Int) then ((spec_TokenOk.f k k0 (s.extract (i : Int).toNat (e : Int).toNat)).bind fun t141 => (if t141 = true then (if (t.length : Int) = 500 then (some ((([] : List (S26))), (i : Int))) else (if t.length < 5864062014805 then (spec_Lex.l0 k s (t ++ [(⟨k0, s.extract (i : Int).toNat (e : Int).toNat⟩ : S26)]) (e : Int)) else (none))) else (some ((([] : List (S26))), (i : Int))))) else (none)) else (none)) else (none))
          (if tokM k0 (bytesOf (s.extract i e)) = true then (if (t.length : Int) = 500 then ([], (i : Int)) else lexM s n e (t ++ [⟨k0, s.extract i e⟩])) else ([], (i : Int))) := by
        intro e k0 h1 h2
        refine ev_pos (by omega) (ev_pos (by omega) (ev_pos (by omega) ?_))
        rw [Int.toNat_natCast, Int.toNat_natCast]
        refine Ev.bind (spec_TokenOk_ev k0 _ (by rw [extract_size s i e (by omega) h2]; omega)) ?_
        refine ev_ite (fun h => ?_) (fun h => by rw [if_neg h]; exact ev_some rfl)
        rw [if_pos h]
        refine ev_ite (fun h5 => by rw [if_pos h5]; exact ev_some rfl) (fun h5 => ?_)
        rw [if_neg h5]
        refine ev_pos (by omega) (ih e _ (by omega) h2 ?_)
        rw [List.length_append, List.length_singleton]
        omega
      refine Ev.bind (ev_c (spec_l8Small_eq _ hr)) ?_
      refine ev_ite (fun h2 => ?_) (fun h2 => ?_)
      · simp only [if_pos h2]
        -- the loop over the name
        have loop : ∀ (d j : Nat), j + d = s.size → i < j → Ev (fun k => spec_Lex.l1 k s t (i : Int) (j : Int) 1 (⟨#[]⟩ : ByteArray)) (if tokM 1 (bytesOf (s.extract i (j + runM ((bytesOf s).drop j)))) = true then (if (t.length : Int) = 500 then ([], (i : Int)) else lexM s n (j + runM ((bytesOf s).drop j)) (t ++ [⟨1, s.extract i (j + runM ((bytesOf s).drop j))⟩])) else ([], (i : Int))) := by
          intro d
          induction d with
          | zero =>
            intro j hj hij
            have e0 : (bytesOf s).drop j = [] := List.drop_eq_nil_of_le (by rw [bytesOf_length]; omega)
            rw [e0]
            simp only [runM, Nat.add_zero]
            refine Ev.step (fun k => by rw [spec_Lex.l1]) (ev_neg (by omega) ?_)
            exact tail j 1 hij (by omega)
          | succ d ihd =>
            intro j hj hij
            have hjl : j < (bytesOf s).length := by rw [bytesOf_length]; omega
            have hd := List.drop_eq_getElem_cons hjl
            have hx : (bytesOf s)[j]? = some (bytesOf s)[j] := List.getElem?_eq_getElem hjl
            have hbj := bt_at' hx
            have hrj := bt_range s (j : Int)
            rw [hbj] at hrj
            have nx := ihd (j + 1) (by omega) (by omega)
            refine Ev.step (fun k => by rw [spec_Lex.l1]) (ev_pos (by omega) (ev_pos (by omega) ?_))
            rw [hbj, wrap_succ (by omega), hd]
            simp only [runM]
            refine Ev.bind (ev_c (spec_l8Small_eq _ hrj)) (ev_ite (fun g => ?_) (fun g => ?_))
            · simp only [if_pos g]
              rw [show j + (runM ((bytesOf s).drop (j + 1)) + 1) = j + 1 + runM ((bytesOf s).drop (j + 1)) by omega]
              exact nx
            · simp only [if_neg g]
              refine Ev.bind (ev_c (spec_l2Digit_eq _ hrj)) (ev_ite (fun g2 => ?_) (fun g2 => ?_))
              · simp only [if_pos g2]
                rw [show j + (runM ((bytesOf s).drop (j + 1)) + 1) = j + 1 + runM ((bytesOf s).drop (j + 1)) by omega]
                exact nx
              · simp only [if_neg g2, Nat.add_zero]
                exact tail j 1 hij (by omega)
        exact loop (s.size - (i + 1)) (i + 1) (by omega) (by omega)
      · simp only [if_neg h2]
        exact tail (i + 1) 2 (by omega) (by omega)
theorem spec_Lex_ev (s : ByteArray) (hs : s.size ≤ 1048576) : Ev (fun k => spec_Lex.f k s) (lexM s s.size 0 []) := spec_Lex_from s hs s.size 0 [] (by omega) (by omega) (by simp)

theorem impl_in_eq (a b c : Int) : impl_in.f a b c = some (inB a b c) := by unfold impl_in.f inB; split <;> rfl

theorem impl_isLetter_eq (a : Int) : impl_isLetter.f a = some (inB a 97 122) := by unfold impl_isLetter.f inB; split <;> rfl

theorem impl_isDigit_eq (a : Int) : impl_isDigit.f a = some (inB a 48 57) := by unfold impl_isDigit.f inB; split <;> rfl

theorem impl_nameOk_ev (s : ByteArray) (hs : s.size ≤ 140737488351232) : Ev (fun k => impl_nameOk.f k s) (nameM s.size 0 (bytesOf s)) := by
  refine ev_list0 (fun k i => impl_nameOk.l0 k s i) (bytesOf s) (nameM s.size) ?_ ?_
  · refine Ev.step (fun k => by rw [impl_nameOk.l0]) ?_
    refine ev_neg (by rw [size_len]; omega) ?_
    exact Ev.bind (ev_c (impl_in_eq _ _ _)) (ev_some rfl)
  · intro i x r hi hx hd ih
    have hb := bt_at' hx
    refine Ev.step (fun k => by rw [impl_nameOk.l0]) ?_
    refine ev_pos (by rw [size_len]; omega) (ev_pos (by omega) ?_)
    rw [wrap_succ (by rw [bytesOf_length] at hi; omega)]
    refine Ev.bind (ev_c (impl_isLetter_eq _)) ?_
    rw [hb]
    unfold nameM
    by_cases c1 : inB x 97 122 = true
    · rw [if_pos c1]; exact ev_pos c1 ih
    · rw [if_neg c1]
      refine ev_neg c1 ?_
      by_cases c2 : i = 0
      · rw [if_pos c2]; exact ev_pos (by omega) (ev_some rfl)
      · rw [if_neg c2]
        refine ev_neg (by omega) (Ev.bind (ev_c (impl_isDigit_eq _)) ?_)
        by_cases c3 : inB x 48 57 = true
        · rw [if_pos c3]; exact ev_pos c3 ih
        · rw [if_neg c3]; exact ev_neg c3 (ev_some rfl)

theorem impl_isMark_eq (c : Int) : impl_isMark.f c = some (markM [c]) := by
  unfold impl_isMark.f markM
  by_cases h1 : c = 123 <;> by_cases h2 : c = 125 <;> by_cases h3 : c = 44 <;> by_cases h4 : c = 59 <;> simp [h1, h2, h3, h4]

theorem impl_TokenOk_ev (a : Int) (s : ByteArray) (hs : s.size ≤ 140737488351232) : Ev (fun k => impl_TokenOk.f k a s) (tokM a (bytesOf s)) := by
  unfold impl_TokenOk.f tokM
  refine ev_ite (fun h => ?_) (fun h => ?_)
  · rw [if_pos h]
    refine Ev.bind (impl_nameOk_ev s hs) (ev_some ?_)
    rw [bytesOf_length]
  · rw [if_neg h]
    refine ev_ite (fun h2 => ?_) (fun h2 => ?_)
    · rw [if_pos h2]
      refine ev_ite (fun h3 => ?_) (fun h3 => ?_)
      · refine ev_pos (by omega) ?_
        have hl : (bytesOf s).length = 1 := by rw [bytesOf_length]; omega
        obtain ⟨x, hx⟩ := List.length_eq_one_iff.1 hl
        have hb : bt s 0 = x := bt_at' (i := 0) (by rw [hx]; rfl)
        rw [hb, hx]
        exact Ev.bind (ev_c (impl_isMark_eq x)) (ev_some rfl)
      · refine ev_some (markM_len _ ?_).symm
        rw [bytesOf_length]; omega
    · rw [if_neg h2]; exact ev_some rfl

theorem impl_Lex_from (s : ByteArray) (hs : s.size ≤ 1048576) : ∀ (n i : Nat) (t : List (S26)), s.size - i ≤ n → i ≤ s.size → t.length ≤ 500 → Ev (fun k => impl_Lex.l0 k s t (i : Int)) (lexM s n i t) := by
  intro n
  induction n with
  | zero =>
    intro i t hn hi ht
    rw [lexM_end s 0 i t (by omega)]
    exact Ev.step (fun k => by rw [impl_Lex.l0]) (ev_neg (by omega) (ev_some rfl))
  | succ n ih =>
    intro i t hn hi ht
    by_cases hend : i = s.size
    · rw [lexM_end s _ i t hend]
      exact Ev.step (fun k => by rw [impl_Lex.l0]) (ev_neg (by omega) (ev_some rfl))
    · have hlt : i < (bytesOf s).length := by rw [bytesOf_length]; omega
      obtain ⟨c, hc⟩ : ∃ c, (bytesOf s)[i]? = some c := ⟨_, List.getElem?_eq_getElem hlt⟩
      have hb := bt_at' hc
      refine Ev.step (fun k => by rw [impl_Lex.l0]) (ev_pos (by omega) (ev_pos (by omega) ?_))
      rw [hb]
      refine lex_blank c (fun k b => impl_Lex.j1 k s t (i : Int) c b) _ (fun b hbb => ?_)
      refine Ev.step (fun k => by rw [impl_Lex.j1]) ?_
      rw [wrap_succ (by omega)]
      simp only [lexM, hc]
      rw [hbb]
      refine ev_ite (fun h => ?_) (fun h => ?_)
      · rw [if_pos h]; exact ih (i + 1) t (by omega) (by omega) ht
      rw [if_neg h]
      -- a token that ends at e, of kind k0
      have tail : ∀ (e : Nat) (k0 : Int), i < e → e ≤ s.size → Ev (fun k => ((impl_TokenOk.f k k0 (s.extract (i : Int).toNat (e : Int).toNat)).bind fun t141 => (if t141 = true then (if (t.length : Int) ≥ 500 then (some ((([] : List (S26))), (i : Int))) else (if t.length < 5864062014805 then (impl_Lex.l0 k s (t ++ [(⟨k0, s.extract (i : Int).toNat (e : Int).toNat⟩ : S26)]) (e : Int)) else (none))) else (some ((([] : List (S26))), (i : Int))))))
          (if tokM k0 (bytesOf (s.extract i e)) = true then (if (t.length : Int) = 500 then ([], (i : Int)) else lexM s n e (t ++ [⟨k0, s.extract i e⟩])) else ([], (i : Int))) := by
        intro e k0 h1 h2
        rw [Int.toNat_natCast, Int.toNat_natCast]
        refine Ev.bind (impl_TokenOk_ev k0 _ (by rw [extract_size s i e (by omega) h2]; omega)) ?_
        refine ev_ite (fun h => ?_) (fun h => by rw [if_neg h]; exact ev_some rfl)
        rw [if_pos h]
        refine ev_ite (fun h5 => by rw [if_pos (by omega)]; exact ev_some rfl) (fun h5 => ?_)
        rw [if_neg (by omega)]
        refine ev_pos (by omega) (ih e _ (by omega) h2 ?_)
        rw [List.length_append, List.length_singleton]
        omega
      refine ev_pos (by omega) (ev_pos (by omega) (ev_pos (by omega) ?_))
      refine Ev.bind (ev_c (impl_isLetter_eq _)) ?_
      refine ev_ite (fun h2 => ?_) (fun h2 => ?_)
      · simp only [if_pos h2]
        -- the loop over the name
        have loop : ∀ (d j : Nat), j + d = s.size → i < j → Ev (fun k => impl_Lex.l1 k s t (i : Int) (j : Int)) (if tokM 1 (bytesOf (s.extract i (j + runM ((bytesOf s).drop j)))) = true then (if (t.length : Int) = 500 then ([], (i : Int)) else lexM s n (j + runM ((bytesOf s).drop j)) (t ++ [⟨1, s.extract i (j + runM ((bytesOf s).drop j))⟩])) else ([], (i : Int))) := by
          intro d
          induction d with
          | zero =>
            intro j hj hij
            have e0 : (bytesOf s).drop j = [] := List.drop_eq_nil_of_le (by rw [bytesOf_length]; omega)
            rw [e0]
            simp only [runM, Nat.add_zero]
            refine Ev.step (fun k => by rw [impl_Lex.l1]) (ev_neg (by omega) ?_)
            exact ev_pos (by omega) (ev_pos (by omega) (ev_pos (by omega) (tail j 1 hij (by omega))))
          | succ d ihd =>
            intro j hj hij
            have hjl : j < (bytesOf s).length := by rw [bytesOf_length]; omega
            have hd := List.drop_eq_getElem_cons hjl
            have hx : (bytesOf s)[j]? = some (bytesOf s)[j] := List.getElem?_eq_getElem hjl
            have hbj := bt_at' hx
            have nx := ihd (j + 1) (by omega) (by omega)
            refine Ev.step (fun k => by rw [impl_Lex.l1]) (ev_pos (by omega) (ev_pos (by omega) ?_))
            rw [hbj, wrap_succ (by omega), hd]
            simp only [runM]
            refine Ev.bind (ev_c (impl_isLetter_eq _)) (ev_ite (fun g => ?_) (fun g => ?_))
            · simp only [if_pos g]
              rw [show j + (runM ((bytesOf s).drop (j + 1)) + 1) = j + 1 + runM ((bytesOf s).drop (j + 1)) by omega]
              exact nx
            · simp only [if_neg g]
              refine Ev.bind (ev_c (impl_isDigit_eq _)) (ev_ite (fun g2 => ?_) (fun g2 => ?_))
              · simp only [if_pos g2]
                rw [show j + (runM ((bytesOf s).drop (j + 1)) + 1) = j + 1 + runM ((bytesOf s).drop (j + 1)) by omega]
                exact nx
              · simp only [if_neg g2, Nat.add_zero]
                exact ev_pos (by omega) (ev_pos (by omega) (ev_pos (by omega) (tail j 1 hij (by omega))))
        exact loop (s.size - (i + 1)) (i + 1) (by omega) (by omega)
      · simp only [if_neg h2]
        exact tail (i + 1) 2 (by omega) (by omega)
theorem impl_Lex_ev (s : ByteArray) (hs : s.size ≤ 1048576) : Ev (fun k => impl_Lex.f k s) (lexM s s.size 0 []) := impl_Lex_from s hs s.size 0 [] (by omega) (by omega) (by simp)

/-- A mark's text: some text, always the same. -/
theorem laws_markText_all : ∀ (d : Nat) (n : Int) (s : ByteArray), n.toNat ≤ d → n ≤ 1000000000000 → s.size + d ≤ 4000000000000 → ∃ r, Ev (fun k => laws_markText.l0 k n s) r := by
  intro d
  induction d with
  | zero =>
    intro n s hn _ hs
    refine ⟨_, Ev.step (fun k => by rw [laws_markText.l0]) (ev_neg (by omega) (ev_pos (by omega) (ev_some rfl)))⟩
  | succ d ih =>
    intro n s hn hn2 hs
    by_cases h : n > 0
    · have e : (strOfNums [wrap64 (48 + Int.tmod n 10) % 256]).size = 1 := strOfNums_size _
      have q : Int.tdiv n 10 = n / 10 := Int.tdiv_eq_ediv_of_nonneg (by omega)
      have qw : wrap64 (n / 10) = n / 10 := wrap_id (by omega) (by omega)
      obtain ⟨r, hr⟩ := ih (n / 10) (strOfNums [wrap64 (48 + Int.tmod n 10) % 256] ++ s) (by omega) (by omega) (by rw [ByteArray.size_append, e]; omega)
      refine ⟨r, ?_⟩
      refine Ev.step (fun k => by rw [laws_markText.l0]) ?_
      refine ev_pos h ?_
      rw [q, qw]
      first
        | exact Ev.bind (ev_c rfl) (ev_pos (by omega) hr)
        | exact ev_pos (by omega) hr
        | (refine Ev.bind (ev_c rfl) ?_; refine ev_pos ?_ hr; omega)
    · exact ⟨_, Ev.step (fun k => by rw [laws_markText.l0]) (ev_neg h (ev_pos (by omega) (ev_some rfl)))⟩
theorem laws_markText_some (n : Int) (h0 : n ≤ 1000000000000) : ∃ r, Ev (fun k => laws_markText.f k n) r := by
  unfold laws_markText.f
  by_cases h : n ≤ 0
  · exact ⟨_, ev_pos h (ev_some rfl)⟩
  · obtain ⟨r, hr⟩ := laws_markText_all n.toNat n (⟨#[]⟩ : ByteArray) (Nat.le_refl _) h0 (by show 0 + _ ≤ _; omega)
    exact ⟨r, ev_neg h hr⟩
open Classical in
noncomputable def markT (n : Int) : ByteArray := if h : n ≤ 1000000000000 then Classical.choose (laws_markText_some n h) else ⟨#[]⟩
theorem laws_markText_ev (n : Int) (h0 : n ≤ 1000000000000) : Ev (fun k => laws_markText.f k n) (markT n) := by
  unfold markT
  rw [dif_pos h0]
  exact Classical.choose_spec (laws_markText_some n h0)

noncomputable def markTok (m : Int) : Nat → List (S26)
  | 0 => []
  | n + 1 => ⟨m, markT (m + 1)⟩ :: markTok (m + 2) n
theorem markTok_len : ∀ (n : Nat) (m : Int), (markTok m n).length = n
  | 0, _ => rfl
  | n + 1, m => by simp [markTok, markTok_len n]
theorem markTok_at : ∀ (n : Nat) (m : Int) (i : Nat), i < n → (markTok m n)[i]? = some ⟨m + 2 * i, markT (m + 2 * i + 1)⟩
  | 0, _, _, h => by omega
  | n + 1, m, 0, _ => by simp [markTok]
  | n + 1, m, i + 1, h => by
    rw [markTok, List.getElem?_cons_succ, markTok_at n (m + 2) i (by omega)]
    rw [show m + 2 + 2 * (i : Int) = m + 2 * ((i + 1 : Nat) : Int) by omega]
theorem laws_markTokenS_ev (l : List (S26)) (m : Int) (h0 : 0 ≤ m) (h1 : m ≤ 1000000000) (hs : l.length ≤ 1000000000) : Ev (fun k => laws_markTokenS.f k l m) (m + 2 * l.length, markTok m l.length) := by
  unfold laws_markTokenS.f
  have h := ev_listI0 (fun k (s : List (S26) × Int) i => laws_markTokenS.l0 k s.1 s.2 i) l (fun s i => s.1.length = l.length ∧ s.2 = m + 2 * i) (fun s i r => (m + 2 * l.length, s.1.take i ++ markTok (m + 2 * i) r.length)) (l, m) (by simp) ?_ ?_
  · simpa using h
  · intro s ⟨hl, hm⟩
    refine Ev.step (fun k => by rw [laws_markTokenS.l0]) ?_
    refine ev_neg (by omega) (ev_some ?_)
    rw [hm, ← hl, List.take_length]
    simp [markTok]
  · intro s i x r ⟨hl, hm⟩ hi hx hd ih
    refine Ev.step (fun k => by rw [laws_markTokenS.l0]) ?_
    refine ev_pos (by omega) (ev_pos (by omega) (Ev.bind (ev_c rfl) ?_))
    rw [wrap_succ (by omega), wrap_id (x := s.2 + 1) (by omega) (by omega), wrap_id (by omega) (by omega), Int.toNat_natCast]
    refine Ev.bind (laws_markText_ev _ (by omega)) ?_
    have e : rd_T26 (s.1.set i ⟨s.2, (rd_T26 s.1 (i : Int)).f1⟩) (i : Int) = ⟨s.2, (rd_T26 s.1 (i : Int)).f1⟩ := getD_at (by rw [List.getElem?_set_self (by omega)])
    rw [e, List.set_set]
    refine ev_eq (ih (s.1.set i ⟨s.2, markT (s.2 + 1)⟩, s.2 + 1 + 1) ⟨by simpa using hl, by simp only; omega⟩) ?_
    rw [List.length_cons, markTok]
    congr 1
    rw [List.take_add_one, List.take_set_of_le (Nat.le_refl i), List.getElem?_set_self (by omega), hm]
    simp only [Option.toList_some, List.append_assoc, List.cons_append, List.nil_append]
    rw [show m + 2 * ((i + 1 : Nat) : Int) = m + 2 * (i : Int) + 2 by omega]

theorem laws_heldTokenS_ev (n : Nat) (m : Int) (h0 : 0 ≤ m) (h1 : m ≤ 1000000000) (hs : n ≤ 1000000000) : Ev (fun k => laws_heldTokenS.f k (markTok m n) m) (m + 2 * n) := by
  unfold laws_heldTokenS.f
  have hl := markTok_len n m
  have h := ev_listI0 (fun k (s : Int) i => laws_heldTokenS.l0 k (markTok m n) s i) (markTok m n) (fun s i => s = m + 2 * i) (fun _ _ _ => m + 2 * n) m (by simp) ?_ ?_
  · exact h
  · intro s hm
    refine Ev.step (fun k => by rw [laws_heldTokenS.l0]) ?_
    refine ev_neg (by omega) (ev_some ?_)
    rw [hm, hl]
  · intro s i x r hm hi hx hd ih
    refine Ev.step (fun k => by rw [laws_heldTokenS.l0]) ?_
    have hx2 := markTok_at n m i (by omega)
    refine ev_pos (by omega) (ev_pos (by omega) ?_)
    rw [show rd_T26 (markTok m n) (i : Int) = _ from getD_at hx2, hm]
    refine ev_pos rfl ?_
    rw [wrap_succ (by omega), wrap_id (x := m + 2 * (i : Int) + 1) (by omega) (by omega), wrap_id (by omega) (by omega)]
    refine Ev.bind (laws_markText_ev _ (by omega)) (ev_pos rfl ?_)
    exact ih _ (by omega)

theorem lexM_len (s : ByteArray) : ∀ (n i : Nat) (t : List (S26)), t.length ≤ 500 → (lexM s n i t).1.length ≤ 500
  | 0, i, t, h => by
    simp only [lexM]
    first
      | exact h
      | (split
         · exact h
         · first | exact h | exact Nat.zero_le _)
  | n + 1, i, t, h => by
    simp only [lexM]
    cases (bytesOf s)[i]? with
    | none => exact h
    | some c =>
      simp only
      by_cases b : blankM c = true
      · rw [if_pos b]; exact lexM_len s n _ t h
      · rw [if_neg b]
        have fin : ∀ (e : Nat) (k0 : Int), (if tokM k0 (bytesOf (s.extract i e)) = true then (if (t.length : Int) = 500 then (([] : List (S26)), (i : Int)) else lexM s n e (t ++ [⟨k0, s.extract i e⟩])) else ([], (i : Int))).1.length ≤ 500 := by
          intro e k0
          split
          · split
            · exact Nat.zero_le _
            · exact lexM_len s n _ _ (by rw [List.length_append, List.length_singleton]; omega)
          · exact Nat.zero_le _
        split
        · exact fin _ _
        · exact fin _ _
theorem FnExactLex : ∀ (a0 : ByteArray), a0.size ≤ 140737488351232 → ∃ k, laws_FnExactLex.f k a0 = some true := by
  intro s _
  refine Ev.rounds ?_
  unfold laws_FnExactLex.f
  refine ev_ite (fun _ => ev_some rfl) (fun h => ?_)
  have hs : s.size ≤ 1048576 := by omega
  have hl := lexM_len s s.size 0 [] (by simp)
  refine Ev.bind (spec_Lex_ev s hs) (Ev.bind (impl_Lex_ev s hs) ?_)
  have e1 := laws_eqTokenS_self (lexM s s.size 0 []).1 (by omega)
  refine Ev.bind e1 (ev_pos rfl ?_)
  refine Ev.step (fun k => by rw [laws_FnExactLex.j0]) (ev_neg (by simp) ?_)
  refine Ev.bind (laws_markTokenS_ev (lexM s s.size 0 []).1 1 (by omega) (by omega) (by omega)) ?_
  have hh := laws_heldTokenS_ev (lexM s s.size 0 []).1.length 1 (by omega) (by omega) (by omega)
  refine Ev.bind hh (ev_neg (by omega) (ev_pos rfl ?_))
  refine Ev.bind (impl_Lex_ev s hs) (Ev.bind e1 (ev_pos rfl ?_))
  refine Ev.step (fun k => by rw [laws_FnExactLex.j1]) (ev_neg (by simp) ?_)
  exact Ev.bind hh (ev_neg (by omega) (ev_pos rfl (ev_some rfl)))

end Go.Proofs.Ythpiinnmmdaloaa.Pure
