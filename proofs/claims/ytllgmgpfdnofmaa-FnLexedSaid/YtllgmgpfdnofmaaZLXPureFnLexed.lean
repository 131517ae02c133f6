/- The law FnLexed in plain words: what the printed functions answer, and that the two agree. Its conditions: the bounds that memory sets. -/
import Derived.Test.YtllgmgpfdnofmaaZLXPFnLexedx6
import Derived.Test.YtllgmgpfdnofmaaZLXKit
import Derived.Test.YtllgmgpfdnofmaaZLXKitE
namespace Go.Proofs.Ytllgmgpfdnofmaa.Pure
open Go.RowKit Go.Proofs.Ytllgmgpfdnofmaa.PFnLexed Go.Proofs.YtllgmgpfdnofmaaW.PrintWords Go.Proofs.YtllgmgpfdnofmaaW.PrintLast Go.Proofs.YtllgmgpfdnofmaaW.PrintMore Go.Proofs.Ytllgmgpfdnofmaa.Kit Go.Proofs.Ytllgmgpfdnofmaa.KitE

theorem spec_l1New_loop (l : List Int) (hl : l.length ≤ 1048576) : ∀ (d i : Nat) (x : Int), i + d = min l.length 4000 → EvP (fun k => spec_l1New.l0 k l x (i : Int)) (fun r => r.1 = l ∧ r.2.1 = 0) := by
  intro d
  induction d with
  | zero =>
    intro i x hi
    refine EvP.step (fun k => by rw [spec_l1New.l0]) ?_
    refine EvP.ite (fun h => ?_) (fun h => ?_)
    · exact EvP.neg (by omega) (EvP.some_ ⟨rfl, rfl⟩)
    · exact EvP.some_ ⟨rfl, rfl⟩
  | succ d ih =>
    intro i x hi
    refine EvP.step (fun k => by rw [spec_l1New.l0]) ?_
    refine EvP.pos (by omega) (EvP.pos (by omega) (EvP.pos (by omega) ?_))
    rw [wrap_succ (by omega)]
    exact ih (i + 1) _ (by omega)
theorem spec_l1New_evp (l : List Int) (hl : l.length ≤ 1048576) : EvP (fun k => spec_l1New.f k l) (fun r => r.1 = l ∧ r.2.1 = 0) := by
  unfold spec_l1New.f
  exact spec_l1New_loop l hl (min l.length 4000) 0 _ (by omega)

theorem spec_l1Byte_evp (b : List Int) (i h : Int) (hi : inv b i) (hb : b.length ≤ 1048576) : EvP (fun _ => spec_l1Byte.f b i h) (fun r => 0 ≤ r.1 ∧ r.1 ≤ 255 ∧ inv b r.2.1) := by
  unfold spec_l1Byte.f
  unfold inv at *
  refine EvP.ite (fun g => ?_) (fun g => ?_)
  · refine EvP.pos hi.1 (EvP.some_ ⟨(and255 _).1, (and255 _).2, ?_⟩)
    dsimp only
    rw [wrap_id (by omega) (by omega)]
    omega
  · exact EvP.some_ ⟨(and255 _).1, (and255 _).2, hi⟩

theorem spec_l1Below_evp (b : List Int) (i h n : Int) (hi : inv b i) (hb : b.length ≤ 1048576) : EvP (fun _ => spec_l1Below.f b i h n) (fun r => 0 ≤ r.1 ∧ (0 < n → r.1 < n) ∧ inv b r.2.1) := by
  have md : ∀ x : Int, 0 ≤ x → ¬ n ≤ 0 → 0 ≤ Int.tmod x n ∧ (0 < n → Int.tmod x n < n) := by
    intro x hx hn
    rw [Int.tmod_eq_emod_of_nonneg hx]
    exact ⟨Int.emod_nonneg _ (by omega), fun h => Int.emod_lt_of_pos _ h⟩
  unfold spec_l1Below.f
  refine EvP.ite (fun g => EvP.some_ ⟨by simp, fun h => by omega, hi⟩) (fun g => ?_)
  refine EvP.ite (fun g2 => ?_) (fun g2 => ?_)
  · refine EvP.bind (spec_l1Byte_evp b i h hi hb) (fun r hr => ?_)
    have := md r.1 hr.1 g
    exact EvP.neg (by omega) (EvP.some_ ⟨this.1, this.2, hr.2.2⟩)
  · refine EvP.bind (spec_l1Byte_evp b i h hi hb) (fun r hr => ?_)
    refine EvP.bind (spec_l1Byte_evp b _ _ hr.2.2 hb) (fun s hs => ?_)
    refine EvP.bind (spec_l1Byte_evp b _ _ hs.2.2 hb) (fun t ht => ?_)
    have e : wrap64 (wrap64 (wrap64 (r.1 * 65536) + wrap64 (s.1 * 256)) + t.1) = r.1 * 65536 + s.1 * 256 + t.1 := by
      rw [wrap_id (x := r.1 * 65536) (by omega) (by omega), wrap_id (x := s.1 * 256) (by omega) (by omega), wrap_id (x := r.1 * 65536 + s.1 * 256) (by omega) (by omega), wrap_id (by omega) (by omega)]
    rw [e]
    have := md (r.1 * 65536 + s.1 * 256 + t.1) (by omega) g
    exact EvP.neg (by omega) (EvP.some_ ⟨this.1, this.2, ht.2.2⟩)

theorem spec_l1Once_evp (b : List Int) (i h n : Int) (hi : inv b i) (hb : b.length ≤ 1048576) : EvP (fun _ => spec_l1Once.f b i h n) (fun r => inv b r.2.1) := by
  unfold spec_l1Once.f
  exact EvP.bind (spec_l1Below_evp b i h n hi hb) (fun r hr => EvP.some_ hr.2.2)

theorem spec_l1Str_evp (b : List Int) (i h : Int) (l : List ByteArray) (hl : 0 < l.length) (hi : inv b i) (hb : b.length ≤ 1048576) : EvP (fun _ => spec_l1Str.f b i h l) (fun r => r.1 ∈ l ∧ inv b r.2.1) := by
  unfold spec_l1Str.f
  refine EvP.bind (spec_l1Below_evp b i h _ hi hb) (fun r hr => ?_)
  have h2 := hr.2.1 (by omega)
  refine EvP.pos hr.1 (EvP.pos h2 (EvP.some_ ⟨?_, hr.2.2⟩))
  have hx : l[r.1.toNat]? = some l[r.1.toNat] := List.getElem?_eq_getElem (by omega)
  have e : rdOf ByteArray.empty l r.1 = l[r.1.toNat] := by
    have h3 : rdOf ByteArray.empty l ((r.1.toNat : Nat) : Int) = l[r.1.toNat] := rdOf_at hx
    rwa [show ((r.1.toNat : Nat) : Int) = r.1 by omega] at h3
  dsimp only
  rw [e]
  exact List.getElem_mem _

def tokGood (x : S73) : Prop := tokM x.f0 (bytesOf x.f1) = true ∧ x.f1.size ≤ 8
theorem spec_l8Token_evp (b : List Int) (i h : Int) (hi : inv b i) (hb : b.length ≤ 1048576) : EvP (fun _ => spec_l8Token.f b i h) (fun r => tokGood ⟨r.1, r.2.1⟩ ∧ inv b r.2.2.1) := by
  unfold spec_l8Token.f
  refine EvP.bind (spec_l1Once_evp b i h 2 hi hb) (fun r hr => EvP.ite (fun _ => ?_) (fun _ => ?_))
  · refine EvP.bind (spec_l1Str_evp b _ _ _ (by simp) hr hb) (fun s hs => EvP.some_ ⟨?_, hs.2⟩)
    have := hs.1
    simp only [List.mem_cons, List.not_mem_nil, or_false] at this
    unfold tokGood
    rcases this with e | e | e | e <;> simp only [e] <;> exact ⟨by decide, by decide⟩
  · refine EvP.bind (spec_l1Str_evp b _ _ _ (by simp) hr hb) (fun s hs => EvP.some_ ⟨?_, hs.2⟩)
    have := hs.1
    simp only [List.mem_cons, List.not_mem_nil, or_false] at this
    unfold tokGood
    rcases this with e | e | e | e | e <;> simp only [e] <;> exact ⟨by decide, by decide⟩

theorem spec_l8Tokens_loop (b : List Int) (hb : b.length ≤ 1048576) : ∀ (d : Nat) (out : List (S73)) (i h : Int), out.length + d ≤ 20 → inv b i → (∀ x ∈ out, tokGood x) →
    EvP (fun k => spec_l8Tokens.l0 k out (d : Int) b i h) (fun r => r.1.length ≤ 20 ∧ (∀ x ∈ r.1, tokGood x) ∧ inv b r.2.1) := by
  intro d
  induction d with
  | zero =>
    intro out i h hd hi hg
    refine EvP.step (fun k => by rw [spec_l8Tokens.l0]) ?_
    exact EvP.neg (by omega) (EvP.some_ ⟨by dsimp only; omega, hg, hi⟩)
  | succ d ih =>
    intro out i h hd hi hg
    refine EvP.step (fun k => by rw [spec_l8Tokens.l0]) ?_
    refine EvP.pos (by omega) ?_
    refine EvP.bind (spec_l8Token_evp b i h hi hb) (fun r hr => EvP.pos (by omega) ?_)
    rw [wrap_id (x := ((d + 1 : Nat) : Int) - 1) (by omega) (by omega), show ((d + 1 : Nat) : Int) - 1 = (d : Int) by omega]
    refine ih (out ++ [⟨r.1, r.2.1⟩]) _ _ (by rw [List.length_append, List.length_singleton]; omega) hr.2 ?_
    intro x hx
    rcases List.mem_append.1 hx with hx | hx
    · exact hg x hx
    · rw [List.mem_singleton.1 hx]; exact hr.1
theorem spec_l8Tokens_evp (b : List Int) (i h n : Int) (n0 : 0 < n) (n1 : n ≤ 20) (hi : inv b i) (hb : b.length ≤ 1048576) :
    EvP (fun k => spec_l8Tokens.f k b i h n) (fun r => r.1.length ≤ 20 ∧ (∀ x ∈ r.1, tokGood x) ∧ inv b r.2.1) := by
  unfold spec_l8Tokens.f
  refine EvP.bind (spec_l1Below_evp b i h n hi hb) (fun r hr => ?_)
  have h1 := hr.2.1 n0
  have e : r.1 = ((r.1.toNat : Nat) : Int) := by have := hr.1; omega
  rw [e]
  exact spec_l8Tokens_loop b hb r.1.toNat [] _ _ (by simp only [List.length_nil]; omega) hr.2.2 (by simp)

theorem spec_DrawJoinTokens_evp (l : List Int) (hl : l.length ≤ 1048576) : EvP (fun k => spec_DrawJoinTokens.f k l) (fun r => r.length ≤ 20 ∧ ∀ x ∈ r, tokGood x) := by
  unfold spec_DrawJoinTokens.f
  refine EvP.bind (spec_l1New_evp l hl) (fun c hc => ?_)
  obtain ⟨cb, ci, ch⟩ := c
  obtain ⟨rfl, rfl⟩ := hc
  exact EvP.bind (spec_l8Tokens_evp _ _ ch 12 (by omega) (by omega) ⟨by dsimp only; omega, by dsimp only; omega⟩ hl) (fun r hr => EvP.some_ ⟨hr.1, hr.2.1⟩)

theorem impl_in_eq (a b c : Int) : impl_in.f a b c = some (inB a b c) := by unfold impl_in.f inB; split <;> rfl

theorem impl_isLetter_eq (a : Int) : impl_isLetter.f a = some (inB a 97 122) := by unfold impl_isLetter.f inB; split <;> rfl

theorem impl_isDigit_eq (a : Int) : impl_isDigit.f a = some (inB a 48 57) := by unfold impl_isDigit.f inB; split <;> rfl

theorem impl_nameOk_ev (s : ByteArray) (hs : s.size ≤ 140737488351232) : Ev (fun k => impl_nameOk.f k s) (nameM s.size 0 (bytesOf s)) := by
  refine ev_list0 (fun k i => impl_nameOk.l0 k s i) (bytesOf s) (nameM s.size) ?_ ?_
  · refine Ev.step (fun k => by rw [impl_nameOk.l0]) ?_
    refine ev_neg (by rw [size_len]; omega) ?_
    exact Ev.bind (ev_c (impl_in_eq _ _ _)) (ev_some rfl)
  · intro i x r hi hx hd ih
    have hb := bt_at' hx
    refine Ev.step (fun k => by rw [impl_nameOk.l0]) ?_
    refine ev_pos (by rw [size_len]; omega) (ev_pos (by omega) ?_)
    rw [wrap_succ (by rw [bytesOf_length] at hi; omega)]
    refine Ev.bind (ev_c (impl_isLetter_eq _)) ?_
    rw [hb]
    unfold nameM
    by_cases c1 : inB x 97 122 = true
    · rw [if_pos c1]; exact ev_pos c1 ih
    · rw [if_neg c1]
      refine ev_neg c1 ?_
      by_cases c2 : i = 0
      · rw [if_pos c2]; exact ev_pos (by omega) (ev_some rfl)
      · rw [if_neg c2]
        refine ev_neg (by omega) (Ev.bind (ev_c (impl_isDigit_eq _)) ?_)
        by_cases c3 : inB x 48 57 = true
        · rw [if_pos c3]; exact ev_pos c3 ih
        · rw [if_neg c3]; exact ev_neg c3 (ev_some rfl)

theorem impl_isMark_eq (c : Int) : impl_isMark.f c = some (markM [c]) := by
  unfold impl_isMark.f markM
  by_cases h1 : c = 123 <;> by_cases h2 : c = 125 <;> by_cases h3 : c = 44 <;> by_cases h4 : c = 59 <;> simp [h1, h2, h3, h4]

theorem impl_TokenOk_ev (a : Int) (s : ByteArray) (hs : s.size ≤ 140737488351232) : Ev (fun k => impl_TokenOk.f k a s) (tokM a (bytesOf s)) := by
  unfold impl_TokenOk.f tokM
  refine ev_ite (fun h => ?_) (fun h => ?_)
  · rw [if_pos h]
    refine Ev.bind (impl_nameOk_ev s hs) (ev_some ?_)
    rw [bytesOf_length]
  · rw [if_neg h]
    refine ev_ite (fun h2 => ?_) (fun h2 => ?_)
    · rw [if_pos h2]
      refine ev_ite (fun h3 => ?_) (fun h3 => ?_)
      · refine ev_pos (by omega) ?_
        have hl : (bytesOf s).length = 1 := by rw [bytesOf_length]; omega
        obtain ⟨x, hx⟩ := List.length_eq_one_iff.1 hl
        have hb : bt s 0 = x := bt_at' (i := 0) (by rw [hx]; rfl)
        rw [hb, hx]
        exact Ev.bind (ev_c (impl_isMark_eq x)) (ev_some rfl)
      · refine ev_some (markM_len _ ?_).symm
        rw [bytesOf_length]; omega
    · rw [if_neg h2]; exact ev_some rfl

theorem spec_l1In_eq (a b c : Int) : spec_l1In.f a b c = some (inB a b c) := by unfold spec_l1In.f inB; split <;> rfl

theorem spec_l8Small_eq (c : Int) (h : 0 ≤ c ∧ c ≤ 255) : spec_l8Small.f c = some (inB c 97 122) := by
  unfold spec_l8Small.f
  rw [wrap_id (by omega) (by omega), spec_l1In_eq]; rfl

theorem spec_l2Digit_eq (c : Int) (h : 0 ≤ c ∧ c ≤ 255) : spec_l2Digit.f c = some (inB c 48 57) := by
  unfold spec_l2Digit.f
  rw [wrap_id (by omega) (by omega), spec_l1In_eq]; rfl

theorem spec_l8Name_ev (s : ByteArray) (hs : s.size ≤ 140737488351232) : Ev (fun k => spec_l8Name.f k s) (nameM s.size 0 (bytesOf s)) := by
  refine ev_list0 (fun k i => spec_l8Name.l0 k s i) (bytesOf s) (nameM s.size) ?_ ?_
  · refine Ev.step (fun k => by rw [spec_l8Name.l0]) ?_
    refine ev_neg (by rw [size_len]; omega) ?_
    exact Ev.bind (ev_c (spec_l1In_eq _ _ _)) (ev_some rfl)
  · intro i x r hi hx hd ih
    have hb := bt_at' hx
    have hr := bt_range s (i : Int)
    refine Ev.step (fun k => by rw [spec_l8Name.l0]) ?_
    refine ev_pos (by rw [size_len]; omega) (ev_pos (by omega) ?_)
    rw [wrap_succ (by rw [bytesOf_length] at hi; omega)]
    rw [hb] at hr ⊢
    refine Ev.bind (ev_c (spec_l8Small_eq _ hr)) ?_
    unfold nameM
    by_cases c1 : inB x 97 122 = true
    · rw [if_pos c1]; exact ev_pos c1 ih
    · rw [if_neg c1]
      refine ev_neg c1 ?_
      by_cases c2 : i = 0
      · rw [if_pos c2]; exact ev_pos (by omega) (ev_some rfl)
      · rw [if_neg c2]
        refine ev_neg (by omega) (Ev.bind (ev_c (spec_l2Digit_eq _ hr)) ?_)
        by_cases c3 : inB x 48 57 = true
        · rw [if_pos c3]; exact ev_pos c3 ih
        · rw [if_neg c3]; exact ev_neg c3 (ev_some rfl)

theorem spec_l8Mark_eq (s : ByteArray) : spec_l8Mark.f s = some (markM (bytesOf s)) := by
  unfold spec_l8Mark.f markM
  have e1 := toList_one s 123
  have e2 := toList_one s 125
  have e3 := toList_one s 44
  have e4 := toList_one s 59
  have e5 : (s.toList == ([59] : List UInt8)) = decide (bytesOf s = [59]) := by rw [Bool.eq_iff_iff]; simp only [beq_iff_eq, decide_eq_true_eq]; exact e4
  rw [e5]
  simp only [e1, e2, e3]
  by_cases h1 : bytesOf s = [123] <;> by_cases h2 : bytesOf s = [125] <;> by_cases h3 : bytesOf s = [44] <;> simp [h1, h2, h3]

theorem spec_TokenOk_ev (a : Int) (s : ByteArray) (hs : s.size ≤ 140737488351232) : Ev (fun k => spec_TokenOk.f k a s) (tokM a (bytesOf s)) := by
  unfold spec_TokenOk.f tokM
  refine ev_ite (fun h => ?_) (fun h => ?_)
  · rw [if_pos h]
    refine Ev.bind (spec_l8Name_ev s hs) (ev_some ?_)
    rw [bytesOf_length]
  · rw [if_neg h]
    refine ev_ite (fun h2 => ?_) (fun h2 => ?_)
    · rw [if_pos h2]; exact Ev.bind (ev_c (spec_l8Mark_eq s)) (ev_some rfl)
    · rw [if_neg h2]; exact ev_some rfl

/-- How many bytes, from here on, are letters or digits. -/
def runM : List Int → Nat
  | [] => 0
  | c :: r => if inB c 97 122 = true then runM r + 1 else if inB c 48 57 = true then runM r + 1 else 0
theorem runM_le : ∀ l, runM l ≤ l.length
  | [] => Nat.le_refl _
  | c :: r => by
    have := runM_le r
    simp only [runM, List.length_cons]
    split
    · omega
    · split <;> omega
def blankM (c : Int) : Bool := if c = 32 then true else if c = 9 then true else if c = 10 then true else c == 13
/-- What is told of the text s from its i-th byte on (n: how many rounds at most), behind the tokens t. -/
def lexM (s : ByteArray) : Nat → Nat → List (S73) → List (S73) × Int
  | 0, i, t => if i = s.size then (t, -1) else ([], i)
  | n + 1, i, t =>
    match (bytesOf s)[i]? with
    | none => (t, -1)
    | some c =>
      if blankM c = true then lexM s n (i + 1) t else
      let e := if inB c 97 122 = true then i + 1 + runM ((bytesOf s).drop (i + 1)) else i + 1
      let k : Int := if inB c 97 122 = true then 1 else 2
      if tokM k (bytesOf (s.extract i e)) = true then (if (t.length : Int) = 500 then ([], (i : Int)) else lexM s n e (t ++ [⟨k, s.extract i e⟩])) else ([], (i : Int))
theorem lexM_end (s : ByteArray) (n i : Nat) (t : List (S73)) (h : i = s.size) : lexM s n i t = (t, -1) := by
  cases n with
  | zero => simp only [lexM]; rw [if_pos h]
  | succ n =>
    have e : (bytesOf s)[i]? = none := List.getElem?_eq_none (by rw [bytesOf_length]; omega)
    simp only [lexM, e]
theorem extract_size (s : ByteArray) (i e : Nat) (h1 : i ≤ e) (h2 : e ≤ s.size) : (s.extract i e).size = e - i := by rw [ByteArray.size_extract]; omega
theorem lex_blank (c : Int) {α : Type} (g : Nat → Bool → Option α) (r : α) (h : ∀ b, b = blankM c → Ev (fun k => g k b) r) :
    Ev (fun k => if c = 32 then g k true else (if c = 9 then g k true else (if c = 10 then g k true else g k (c == 13)))) r := by
  unfold blankM at h
  refine ev_ite (fun c1 => h _ (by rw [if_pos c1])) (fun c1 => ?_)
  refine ev_ite (fun c2 => h _ (by rw [if_neg c1, if_pos c2])) (fun c2 => ?_)
  refine ev_ite (fun c3 => h _ (by rw [if_neg c1, if_neg c2, if_pos c3])) (fun c3 => ?_)
  exact h _ (by rw [if_neg c1, if_neg c2, if_neg c3])
theorem spec_Lex_from (s : ByteArray) (hs : s.size ≤ 1048576) : ∀ (n i : Nat) (t : List (S73)), s.size - i ≤ n → i ≤ s.size → t.length ≤ 500 → Ev (fun k => spec_Lex.l0 k s t (i : Int)) (lexM s n i t) := by
  intro n
  induction n with
  | zero =>
    intro i t hn hi ht
    rw [lexM_end s 0 i t (by omega)]
    exact Ev.step (fun k => by rw [spec_Lex.l0]) (ev_neg (by omega) (ev_some rfl))
  | succ n ih =>
    intro i t hn hi ht
    by_cases hend : i = s.size
    · rw [lexM_end s _ i t hend]
      exact Ev.step (fun k => by rw [spec_Lex.l0]) (ev_neg (by omega) (ev_some rfl))
    · have hlt : i < (bytesOf s).length := by rw [bytesOf_length]; omega
      obtain ⟨c, hc⟩ : ∃ c, (bytesOf s)[i]? = some c := ⟨_, List.getElem?_eq_getElem hlt⟩
      have hb := bt_at' hc
      have hr := bt_range s (i : Int)
      rw [hb] at hr
      refine Ev.step (fun k => by rw [spec_Lex.l0]) (ev_pos (by omega) (ev_pos (by omega) ?_))
      rw [hb]
      refine lex_blank c (fun k b => spec_Lex.j1 k s t (i : Int) c b) _ (fun b hbb => ?_)
      refine Ev.step (fun k => by rw [spec_Lex.j1]) ?_
      rw [wrap_succ (by omega)]
      simp only [lexM, hc]
      rw [hbb]
      refine ev_ite (fun h => ?_) (fun h => ?_)
      · rw [if_pos h]; exact ih (i + 1) t (by omega) (by omega) ht
      rw [if_neg h]
      -- a token that ends at e, of kind k0
      have tail : ∀ (e : Nat) (k0 : Int), i < e → e ≤ s.size → Ev (fun k => if 0 ≤ (i : Int) then (if (i : Int) ≤ (e : Int) then (if (e : Int) ≤ (s.size : Int) then ((spec_TokenOk.f k k0 (s.extract (i : Int).toNat (e : Int).toNat)).bind fun t141 => (if t141 = true then (if (t.length : Int) = 500 then (some ((([] : List (S73))), (i : Int))) else (if t.length < 5864062014805 then (spec_Lex.l0 k s (t ++ [(⟨k0, s.extract (i : Int).toNat (e : Int).toNat⟩ : S73)]) (e : Int)) else (none))) else (some ((([] : List (S73))), (i : Int))))) else (none)) else (none)) else (none))
          (if tokM k0 (bytesOf (s.extract i e)) = true then (if (t.length : Int) = 500 then ([], (i : Int)) else lexM s n e (t ++ [⟨k0, s.extract i e⟩])) else ([], (i : Int))) := by
        intro e k0 h1 h2
        refine ev_pos (by omega) (ev_pos (by omega) (ev_pos (by omega) ?_))
        rw [Int.toNat_natCast, Int.toNat_natCast]
        refine Ev.bind (spec_TokenOk_ev k0 _ (by rw [extract_size s i e (by omega) h2]; omega)) ?_
        refine ev_ite (fun h => ?_) (fun h => by rw [if_neg h]; exact ev_some rfl)
        rw [if_pos h]
        refine ev_ite (fun h5 => by rw [if_pos h5]; exact ev_some rfl) (fun h5 => ?_)
        rw [if_neg h5]
        refine ev_pos (by omega) (ih e _ (by omega) h2 ?_)
        rw [List.length_append, List.length_singleton]
        omega
      refine Ev.bind (ev_c (spec_l8Small_eq _ hr)) ?_
      refine ev_ite (fun h2 => ?_) (fun h2 => ?_)
      · simp only [if_pos h2]
        -- the loop over the name
        have loop : ∀ (d j : Nat), j + d = s.size → i < j → Ev (fun k => spec_Lex.l1 k s t (i : Int) (j : Int) 1 (⟨#[]⟩ : ByteArray)) (if tokM 1 (bytesOf (s.extract i (j + runM ((bytesOf s).drop j)))) = true then (if (t.length : Int) = 500 then ([], (i : Int)) else lexM s n (j + runM ((bytesOf s).drop j)) (t ++ [⟨1, s.extract i (j + runM ((bytesOf s).drop j))⟩])) else ([], (i : Int))) := by
          intro d
          induction d with
          | zero =>
            intro j hj hij
            have e0 : (bytesOf s).drop j = [] := List.drop_eq_nil_of_le (by rw [bytesOf_length]; omega)
            rw [e0]
            simp only [runM, Nat.add_zero]
            refine Ev.step (fun k => by rw [spec_Lex.l1]) (ev_neg (by omega) ?_)
            exact tail j 1 hij (by omega)
          | succ d ihd =>
            intro j hj hij
            have hjl : j < (bytesOf s).length := by rw [bytesOf_length]; omega
            have hd := List.drop_eq_getElem_cons hjl
            have hx : (bytesOf s)[j]? = some (bytesOf s)[j] := List.getElem?_eq_getElem hjl
            have hbj := bt_at' hx
            have hrj := bt_range s (j : Int)
            rw [hbj] at hrj
            have nx := ihd (j + 1) (by omega) (by omega)
            refine Ev.step (fun k => by rw [spec_Lex.l1]) (ev_pos (by omega) (ev_pos (by omega) ?_))
            rw [hbj, wrap_succ (by omega), hd]
            simp only [runM]
            refine Ev.bind (ev_c (spec_l8Small_eq _ hrj)) (ev_ite (fun g => ?_) (fun g => ?_))
            · simp only [if_pos g]
              rw [show j + (runM ((bytesOf s).drop (j + 1)) + 1) = j + 1 + runM ((bytesOf s).drop (j + 1)) by omega]
              exact nx
            · simp only [if_neg g]
              refine Ev.bind (ev_c (spec_l2Digit_eq _ hrj)) (ev_ite (fun g2 => ?_) (fun g2 => ?_))
              · simp only [if_pos g2]
                rw [show j + (runM ((bytesOf s).drop (j + 1)) + 1) = j + 1 + runM ((bytesOf s).drop (j + 1)) by omega]
                exact nx
              · simp only [if_neg g2, Nat.add_zero]
                exact tail j 1 hij (by omega)
        exact loop (s.size - (i + 1)) (i + 1) (by omega) (by omega)
      · simp only [if_neg h2]
        exact tail (i + 1) 2 (by omega) (by omega)
theorem spec_Lex_ev (s : ByteArray) (hs : s.size ≤ 1048576) : Ev (fun k => spec_Lex.f k s) (lexM s s.size 0 []) := spec_Lex_from s hs s.size 0 [] (by omega) (by omega) (by simp)

theorem impl_Lex_from (s : ByteArray) (hs : s.size ≤ 1048576) : ∀ (n i : Nat) (t : List (S73)), s.size - i ≤ n → i ≤ s.size → t.length ≤ 500 → Ev (fun k => impl_Lex.l0 k s t (i : Int)) (lexM s n i t) := by
  intro n
  induction n with
  | zero =>
    intro i t hn hi ht
    rw [lexM_end s 0 i t (by omega)]
    exact Ev.step (fun k => by rw [impl_Lex.l0]) (ev_neg (by omega) (ev_some rfl))
  | succ n ih =>
    intro i t hn hi ht
    by_cases hend : i = s.size
    · rw [lexM_end s _ i t hend]
      exact Ev.step (fun k => by rw [impl_Lex.l0]) (ev_neg (by omega) (ev_some rfl))
    · have hlt : i < (bytesOf s).length := by rw [bytesOf_length]; omega
      obtain ⟨c, hc⟩ : ∃ c, (bytesOf s)[i]? = some c := ⟨_, List.getElem?_eq_getElem hlt⟩
      have hb := bt_at' hc
      refine Ev.step (fun k => by rw [impl_Lex.l0]) (ev_pos (by omega) (ev_pos (by omega) ?_))
      rw [hb]
      refine lex_blank c (fun k b => impl_Lex.j1 k s t (i : Int) c b) _ (fun b hbb => ?_)
      refine Ev.step (fun k => by rw [impl_Lex.j1]) ?_
      rw [wrap_succ (by omega)]
      simp only [lexM, hc]
      rw [hbb]
      refine ev_ite (fun h => ?_) (fun h => ?_)
      · rw [if_pos h]; exact ih (i + 1) t (by omega) (by omega) ht
      rw [if_neg h]
      -- a token that ends at e, of kind k0
      have tail : ∀ (e : Nat) (k0 : Int), i < e → e ≤ s.size → Ev (fun k => ((impl_TokenOk.f k k0 (s.extract (i : Int).toNat (e : Int).toNat)).bind fun t141 => (if t141 = true then (if (t.length : Int) ≥ 500 then (some ((([] : List (S73))), (i : Int))) else (if t.length < 5864062014805 then (impl_Lex.l0 k s (t ++ [(⟨k0, s.extract (i : Int).toNat (e : Int).toNat⟩ : S73)]) (e : Int)) else (none))) else (some ((([] : List (S73))), (i : Int))))))
          (if tokM k0 (bytesOf (s.extract i e)) = true then (if (t.length : Int) = 500 then ([], (i : Int)) else lexM s n e (t ++ [⟨k0, s.extract i e⟩])) else ([], (i : Int))) := by
        intro e k0 h1 h2
        rw [Int.toNat_natCast, Int.toNat_natCast]
        refine Ev.bind (impl_TokenOk_ev k0 _ (by rw [extract_size s i e (by omega) h2]; omega)) ?_
        refine ev_ite (fun h => ?_) (fun h => by rw [if_neg h]; exact ev_some rfl)
        rw [if_pos h]
        refine ev_ite (fun h5 => by rw [if_pos (by omega)]; exact ev_some rfl) (fun h5 => ?_)
        rw [if_neg (by omega)]
        refine ev_pos (by omega) (ih e _ (by omega) h2 ?_)
        rw [List.length_append, List.length_singleton]
        omega
      refine ev_pos (by omega) (ev_pos (by omega) (ev_pos (by omega) ?_))
      refine Ev.bind (ev_c (impl_isLetter_eq _)) ?_
      refine ev_ite (fun h2 => ?_) (fun h2 => ?_)
      · simp only [if_pos h2]
        -- the loop over the name
        have loop : ∀ (d j : Nat), j + d = s.size → i < j → Ev (fun k => impl_Lex.l1 k s t (i : Int) (j : Int)) (if tokM 1 (bytesOf (s.extract i (j + runM ((bytesOf s).drop j)))) = true then (if (t.length : Int) = 500 then ([], (i : Int)) else lexM s n (j + runM ((bytesOf s).drop j)) (t ++ [⟨1, s.extract i (j + runM ((bytesOf s).drop j))⟩])) else ([], (i : Int))) := by
          intro d
          induction d with
          | zero =>
            intro j hj hij
            have e0 : (bytesOf s).drop j = [] := List.drop_eq_nil_of_le (by rw [bytesOf_length]; omega)
            rw [e0]
            simp only [runM, Nat.add_zero]
            refine Ev.step (fun k => by rw [impl_Lex.l1]) (ev_neg (by omega) ?_)
            exact ev_pos (by omega) (ev_pos (by omega) (ev_pos (by omega) (tail j 1 hij (by omega))))
          | succ d ihd =>
            intro j hj hij
            have hjl : j < (bytesOf s).length := by rw [bytesOf_length]; omega
            have hd := List.drop_eq_getElem_cons hjl
            have hx : (bytesOf s)[j]? = some (bytesOf s)[j] := List.getElem?_eq_getElem hjl
            have hbj := bt_at' hx
            have nx := ihd (j + 1) (by omega) (by omega)
            refine Ev.step (fun k => by rw [impl_Lex.l1]) (ev_pos (by omega) (ev_pos (by omega) ?_))
            rw [hbj, wrap_succ (by omega), hd]
            simp only [runM]
            refine Ev.bind (ev_c (impl_isLetter_eq _)) (ev_ite (fun g => ?_) (fun g => ?_))
            · simp only [if_pos g]
              rw [show j + (runM ((bytesOf s).drop (j + 1)) + 1) = j + 1 + runM ((bytesOf s).drop (j + 1)) by omega]
              exact nx
            · simp only [if_neg g]
              refine Ev.bind (ev_c (impl_isDigit_eq _)) (ev_ite (fun g2 => ?_) (fun g2 => ?_))
              · simp only [if_pos g2]
                rw [show j + (runM ((bytesOf s).drop (j + 1)) + 1) = j + 1 + runM ((bytesOf s).drop (j + 1)) by omega]
                exact nx
              · simp only [if_neg g2, Nat.add_zero]
                exact ev_pos (by omega) (ev_pos (by omega) (ev_pos (by omega) (tail j 1 hij (by omega))))
        exact loop (s.size - (i + 1)) (i + 1) (by omega) (by omega)
      · simp only [if_neg h2]
        exact tail (i + 1) 2 (by omega) (by omega)
theorem impl_Lex_ev (s : ByteArray) (hs : s.size ≤ 1048576) : Ev (fun k => impl_Lex.f k s) (lexM s s.size 0 []) := impl_Lex_from s hs s.size 0 [] (by omega) (by omega) (by simp)

def spB : ByteArray := ⟨#[32]⟩
/-- What is joined: the tokens' texts, a blank between each two. -/
def restJ : ByteArray → Nat → List ByteArray → ByteArray
  | s, _, [] => s
  | s, i, x :: r => restJ ((if i = 0 then s else s ++ spB) ++ x) (i + 1) r
theorem restJ_tail (r : List ByteArray) : ∀ (s : ByteArray) (i : Nat), 0 < i → (restJ s i r).data.toList = s.data.toList ++ Lib.joinTail [32] (r.map (·.data.toList)) := by
  induction r with
  | nil => intro s i _; simp [restJ, Lib.joinTail]
  | cons x r ih =>
    intro s i hi
    rw [restJ, if_neg (by omega), ih _ _ (by omega)]
    simp [ByteArray.data_append, Lib.joinTail, spB, List.append_assoc]
theorem restJ_eq (l : List ByteArray) : restJ ⟨#[]⟩ 0 l = joinS l spB := by
  have h : (restJ ⟨#[]⟩ 0 l).data.toList = (joinS l spB).data.toList := by
    cases l with
    | nil => simp [restJ, joinS, Lib.join, List.intercalate]
    | cons x r =>
      rw [restJ, if_pos rfl, restJ_tail _ _ _ (by omega)]
      simp only [joinS, List.map_cons]
      rw [Lib.join_cons]
      simp [ByteArray.data_append, spB]
  have h2 : (restJ ⟨#[]⟩ 0 l).data = (joinS l spB).data := Array.toList_inj.1 h
  cases h3 : restJ ⟨#[]⟩ 0 l
  cases h4 : joinS l spB
  rw [h3, h4] at h2
  congr 1
theorem restJ_size (l : List ByteArray) : ∀ (s : ByteArray) (i : Nat), (restJ s i l).size ≤ s.size + (l.map ByteArray.size).sum + l.length := by
  induction l with
  | nil => intro s i; simp [restJ]
  | cons x r ih =>
    intro s i
    rw [restJ]
    have h := ih ((if i = 0 then s else s ++ spB) ++ x) (i + 1)
    rw [ByteArray.size_append] at h
    simp only [List.map_cons, List.sum_cons, List.length_cons]
    have : (if i = 0 then s else s ++ spB).size ≤ s.size + 1 := by
      split
      · omega
      · rw [ByteArray.size_append]; exact Nat.le_refl _
    omega

theorem impl_JoinTokens_ev (l : List (S73)) (hs : l.length ≤ 1048576) (ht : (l.map fun x => x.f1.size).sum ≤ 1048576) : Ev (fun k => impl_JoinTokens.f k l) (joinS (l.map (·.f1)) spB) := by
  unfold impl_JoinTokens.f
  have h := ev_listI0 (fun k s i => impl_JoinTokens.l0 k s l (l.length : Int) i) l (fun s i => s = (l.take i).map (·.f1)) (fun s i r => joinS (s ++ r.map (·.f1)) spB) ([] : List ByteArray) (by simp) ?_ ?_
  · exact h
  · intro s hI
    rw [List.take_length] at hI
    subst hI
    refine Ev.step (fun k => by rw [impl_JoinTokens.l0]) ?_; refine ev_neg (by omega) ?_
    rw [List.map_nil, List.append_nil]
    have sz : (joinS (l.map (·.f1)) spB).size ≤ 2097152 := by
      rw [← restJ_eq]
      have := restJ_size (l.map (·.f1)) ⟨#[]⟩ 0
      rw [List.map_map, List.length_map] at this
      have e : (l.map (ByteArray.size ∘ fun x => x.f1)).sum = (l.map fun x => x.f1.size).sum := rfl
      rw [e] at this
      have z : (⟨#[]⟩ : ByteArray).size = 0 := rfl
      omega
    refine Ev.bind (ev_c (?_ : strings_Join.f (l.map (·.f1)) spB = some (joinS (l.map (·.f1)) spB))) (ev_some rfl)
    unfold strings_Join.f
    rw [if_pos ⟨by rw [List.length_map]; omega, by omega⟩]
  · intro s i x r hI hi hx hd ih
    subst hI
    refine Ev.step (fun k => by rw [impl_JoinTokens.l0]) ?_; refine ev_pos (by omega) (ev_pos (by omega) (ev_pos (by omega) (ev_pos ?_ ?_)))
    · rw [List.length_map, List.length_take]; omega
    · rw [wrap_succ (by omega), show rd_T73 l (i : Int) = x from getD_at hx]
      have h := ih ((l.take i).map (·.f1) ++ [x.f1]) (by rw [List.take_add_one, hx]; simp)
      simpa using h

theorem spec_JoinTokens_ev (l : List (S73)) (hs : l.length ≤ 1048576) (ht : (l.map fun x => x.f1.size).sum ≤ 1048576) : Ev (fun k => spec_JoinTokens.f k l) (joinS (l.map (·.f1)) spB) := by
  unfold spec_JoinTokens.f
  rw [← restJ_eq]
  refine ev_listI0 (fun k s i => spec_JoinTokens.l0 k l s i) l (fun s i => s.size + ((l.drop i).map fun x => x.f1.size).sum + (l.length - i) ≤ 2097152) (fun s i r => restJ s i (r.map (·.f1))) (⟨#[]⟩ : ByteArray) ?_ ?_ ?_
  · rw [List.drop_zero]; show 0 + _ + _ ≤ _; omega
  · intro s hI
    refine Ev.step (fun k => by rw [spec_JoinTokens.l0]) ?_; exact ev_neg (by omega) (ev_some rfl)
  · intro s i x r hI hi hx hd ih
    have hr : l.drop (i + 1) = r := by rw [← List.drop_drop, hd]; rfl
    rw [hd] at hI
    simp only [List.map_cons, List.sum_cons] at hI
    refine Ev.step (fun k => by rw [spec_JoinTokens.l0]) ?_; refine ev_pos (by omega) ?_
    rw [wrap_succ (by omega), show rd_T73 l (i : Int) = x from getD_at hx, List.map_cons, restJ]
    have e1 : (s ++ (⟨#[32]⟩ : ByteArray)).size = s.size + 1 := by rw [ByteArray.size_append]; rfl
    by_cases h0 : i = 0
    · subst h0
      rw [if_pos rfl]
      refine ev_neg (by omega) (ev_pos (by omega) (ev_pos (by omega) (ih _ ?_)))
      rw [hr, ByteArray.size_append]; omega
    · rw [if_neg h0]
      refine ev_pos (by omega) (ev_pos (by omega) (ev_pos (by omega) (ev_pos (by rw [e1]; omega) (ih _ ?_))))
      rw [hr, ByteArray.size_append, e1]; omega

theorem sum_tok (l : List (S73)) (h : ∀ x ∈ l, tokGood x) : (l.map fun x => x.f1.size).sum ≤ 8 * l.length := by
  induction l with
  | nil => simp
  | cons x r ih =>
    have h1 := (h x List.mem_cons_self).2
    have h2 := ih (fun y hy => h y (List.mem_cons_of_mem _ hy))
    simp only [List.map_cons, List.sum_cons, List.length_cons]
    omega
theorem joinS_small (l : List (S73)) (hl : l.length ≤ 20) (h : ∀ x ∈ l, tokGood x) : (joinS (l.map (·.f1)) spB).size ≤ 1000 := by
  have h1 := restJ_size (l.map (·.f1)) ⟨#[]⟩ 0
  have h2 := sum_tok l h
  rw [restJ_eq, List.map_map, List.length_map] at h1
  have e : (l.map (ByteArray.size ∘ fun x => x.f1)).sum = (l.map fun x => x.f1.size).sum := rfl
  have z : (⟨#[]⟩ : ByteArray).size = 0 := rfl
  rw [e, z] at h1
  omega
theorem spec_DrawLex_loop (b : List Int) (hb : b.length ≤ 1048576) : ∀ (d n : Nat) (s : ByteArray) (i h : Int), n + d = 502 → s.size = n → inv b i → EvP (fun k => spec_DrawLex.l0 k s (n : Int) b i h) (fun r => r.size ≤ 1048576) := by
  intro d
  induction d with
  | zero =>
    intro n s i h hd hs hi
    refine EvP.step (fun k => by rw [spec_DrawLex.l0]) ?_; refine EvP.bind (spec_l1Below_evp b i h 2 hi hb) (fun r hr => ?_)
    have h1 := hr.2.1 (by omega)
    have h0 := hr.1
    rw [wrap_id (x := 500 + r.1) (by omega) (by omega)]
    exact EvP.neg (by omega) (EvP.some_ (by omega))
  | succ d ih =>
    intro n s i h hd hs hi
    refine EvP.step (fun k => by rw [spec_DrawLex.l0]) ?_; refine EvP.bind (spec_l1Below_evp b i h 2 hi hb) (fun r hr => ?_)
    have h1 := hr.2.1 (by omega)
    have h0 := hr.1
    rw [wrap_id (x := 500 + r.1) (by omega) (by omega)]
    refine EvP.ite (fun c => EvP.pos (by omega) ?_) (fun c => EvP.some_ (by omega))
    rw [wrap_succ (by omega)]
    refine ih (n + 1) _ _ _ (by omega) ?_ hr.2.2
    rw [ByteArray.size_append, hs]; rfl
theorem spec_DrawLex_evp (l : List Int) (hl : l.length ≤ 1048576) : EvP (fun k => spec_DrawLex.f k l) (fun r => r.size ≤ 1048576) := by
  unfold spec_DrawLex.f
  refine EvP.bind (spec_l1New_evp l hl) (fun c hc => ?_)
  obtain ⟨cb, ci, ch⟩ := c
  obtain ⟨rfl, rfl⟩ := hc
  refine EvP.bind (spec_l8Tokens_evp _ _ ch 8 (by omega) (by omega) ⟨by dsimp only; omega, by dsimp only; omega⟩ hl) (fun t ht => ?_)
  have hs := sum_tok t.1 ht.2.1
  have h20 := ht.1
  have js := joinS_small t.1 ht.1 ht.2.1
  refine EvP.bind (P := fun a => a.size ≤ 1000) (EvP.ev (spec_JoinTokens_ev t.1 (by omega) (by omega)) js) (fun s hs1 => ?_)
  have fin : ∀ (x : ByteArray) (i h : Int), x.size ≤ 2000 → inv cb i → EvP (fun k => spec_DrawLex.j0 k x cb i h) (fun r => r.size ≤ 1048576) := by
    intro x i h hx hi
    refine EvP.step (fun k => by rw [spec_DrawLex.j0]) ?_; refine EvP.bind (spec_l1Once_evp cb i h 200 hi hl) (fun r hr => EvP.ite (fun _ => ?_) (fun _ => EvP.some_ (by omega)))
    exact spec_DrawLex_loop cb hl 502 0 _ _ _ (by omega) rfl hr
  refine EvP.bind (spec_l1Once_evp cb _ _ 3 ht.2.2 hl) (fun r hr => EvP.ite (fun _ => ?_) (fun _ => fin _ _ _ (by omega) hr))
  refine EvP.bind (spec_l1Str_evp cb _ _ _ (by simp) hr hl) (fun u hu => ?_)
  have hu2 : u.1.size ≤ 100 := by
    have := hu.1
    simp only [List.mem_cons, List.not_mem_nil, or_false] at this
    rcases this with e | e | e | e | e | e | e | e <;> rw [e] <;> decide
  exact EvP.pos (by omega) (fin _ _ _ (by rw [ByteArray.size_append]; omega) hu.2)

theorem spec_DrawTokenOk_evp (l : List Int) (hl : l.length ≤ 1048576) : EvP (fun k => spec_DrawTokenOk.f k l) (fun r => r.2.size ≤ 100) := by
  unfold spec_DrawTokenOk.f
  refine EvP.bind (spec_l1New_evp l hl) (fun c hc => ?_)
  obtain ⟨cb, ci, ch⟩ := c
  obtain ⟨rfl, rfl⟩ := hc
  refine EvP.bind (spec_l8Token_evp _ _ ch ⟨by dsimp only; omega, by dsimp only; omega⟩ hl) (fun t ht => ?_)
  have h8 := ht.1.2
  simp only at h8
  refine EvP.bind (spec_l1Below_evp _ _ _ 4 ht.2 hl) (fun r hr => EvP.ite (fun _ => ?_) (fun _ => EvP.ite (fun _ => ?_) (fun _ => EvP.some_ (by dsimp only; omega))))
  · exact EvP.bind (spec_l1Below_evp _ _ _ 4 hr.2.2 hl) (fun s hs => EvP.some_ (by dsimp only; omega))
  · refine EvP.bind (spec_l1Str_evp _ _ _ _ (by simp) hr.2.2 hl) (fun s hs => EvP.some_ ?_)
    show s.1.size ≤ 100
    have := hs.1
    simp only [List.mem_cons, List.not_mem_nil, or_false] at this
    rcases this with e | e | e | e | e <;> rw [e] <;> decide

theorem lexM_len (s : ByteArray) : ∀ (n i : Nat) (t : List (S73)), t.length ≤ 500 → (lexM s n i t).1.length ≤ 500
  | 0, i, t, h => by
    simp only [lexM]
    first
      | exact h
      | (split
         · exact h
         · first | exact h | exact Nat.zero_le _)
  | n + 1, i, t, h => by
    simp only [lexM]
    cases (bytesOf s)[i]? with
    | none => exact h
    | some c =>
      simp only
      by_cases b : blankM c = true
      · rw [if_pos b]; exact lexM_len s n _ t h
      · rw [if_neg b]
        have fin : ∀ (e : Nat) (k0 : Int), (if tokM k0 (bytesOf (s.extract i e)) = true then (if (t.length : Int) = 500 then (([] : List (S73)), (i : Int)) else lexM s n e (t ++ [⟨k0, s.extract i e⟩])) else ([], (i : Int))).1.length ≤ 500 := by
          intro e k0
          split
          · split
            · exact Nat.zero_le _
            · exact lexM_len s n _ _ (by rw [List.length_append, List.length_singleton]; omega)
          · exact Nat.zero_le _
        split
        · exact fin _ _
        · exact fin _ _

theorem lexM_bad (s : ByteArray) : ∀ (n i : Nat) (t : List (S73)), (lexM s n i t).2 = -1 ∨ (lexM s n i t).1 = []
  | 0, i, t => by
    simp only [lexM]
    split
    · exact Or.inl rfl
    · exact Or.inr rfl
  | n + 1, i, t => by
    simp only [lexM]
    cases (bytesOf s)[i]? with
    | none => exact Or.inl rfl
    | some c =>
      simp only
      by_cases b : blankM c = true
      · rw [if_pos b]; exact lexM_bad s n _ t
      · rw [if_neg b]
        have fin : ∀ (e : Nat) (k0 : Int), (if tokM k0 (bytesOf (s.extract i e)) = true then (if (t.length : Int) = 500 then (([] : List (S73)), (i : Int)) else lexM s n e (t ++ [⟨k0, s.extract i e⟩])) else ([], (i : Int))).2 = -1 ∨ (if tokM k0 (bytesOf (s.extract i e)) = true then (if (t.length : Int) = 500 then (([] : List (S73)), (i : Int)) else lexM s n e (t ++ [⟨k0, s.extract i e⟩])) else ([], (i : Int))).1 = [] := by
          intro e k0
          split
          · split
            · exact Or.inr rfl
            · exact lexM_bad s n _ _
          · exact Or.inr rfl
        exact fin _ _
theorem bytesOf_extract (s : ByteArray) (i e : Nat) : bytesOf (s.extract i e) = ((bytesOf s).take e).drop i := by
  unfold bytesOf
  rw [ByteArray.data_extract, List.drop_take]
  simp [List.map_drop, List.map_take]
theorem bytesOf_eq {s t : ByteArray} (h : bytesOf s = bytesOf t) : s = t := by
  have h1 : s.data.toList = t.data.toList := by
    unfold bytesOf at h
    exact (List.map_inj_right (fun a b hab => UInt8.toNat_inj.1 (Int.ofNat_inj.1 hab))).1 h
  have h2 : s.data = t.data := Array.toList_inj.1 h1
  cases s; cases t; simp only at h2; rw [h2]
theorem runM_app : ∀ (a r : List Int), (∀ c ∈ a, inB c 97 122 = true ∨ inB c 48 57 = true) → (r = [] ∨ r.head? = some 32) → runM (a ++ r) = a.length
  | [], r, _, hr => by
    rcases hr with rfl | hr
    · rfl
    · cases r with
      | nil => simp at hr
      | cons c r =>
        simp only [List.head?_cons, Option.some.injEq] at hr
        subst hr
        rfl
  | c :: a, r, h, hr => by
    have ih := runM_app a r (fun x hx => h x (List.mem_cons_of_mem _ hx)) hr
    rw [List.cons_append, runM, ih]
    rcases h c List.mem_cons_self with h1 | h1
    · rw [if_pos h1, List.length_cons]
    · by_cases h2 : inB c 97 122 = true
      · rw [if_pos h2, List.length_cons]
      · rw [if_neg h2, if_pos h1, List.length_cons]
theorem nameM_rest (n : Int) : ∀ (a : List Int) (i : Nat), 0 < i → nameM n i a = true → (∀ c ∈ a, inB c 97 122 = true ∨ inB c 48 57 = true) ∧ inB n 1 8 = true
  | [], i, _, h => ⟨by simp, h⟩
  | c :: a, i, hi, h => by
    rw [nameM] at h
    split at h
    · rename_i h1
      have := nameM_rest n a (i + 1) (by omega) h
      exact ⟨fun x hx => by rcases List.mem_cons.1 hx with rfl | hx; exact Or.inl h1; exact this.1 x hx, this.2⟩
    · split at h
      · omega
      · split at h
        · rename_i h1
          have := nameM_rest n a (i + 1) (by omega) h
          exact ⟨fun x hx => by rcases List.mem_cons.1 hx with rfl | hx; exact Or.inr h1; exact this.1 x hx, this.2⟩
        · cases h
/-- A token at i is read as it is. -/
theorem lexM_tok (s : ByteArray) (n i : Nat) (t : List (S73)) (x : S73) (r : List Int) (hx : tokM x.f0 (bytesOf x.f1) = true) (hd : (bytesOf s).drop i = bytesOf x.f1 ++ r) (hr : r = [] ∨ r.head? = some 32) (ht : t.length < 500) :
    lexM s (n + 1) i t = lexM s n (i + (bytesOf x.f1).length) (t ++ [x]) ∧ 0 < (bytesOf x.f1).length := by
  obtain ⟨k, f⟩ := x
  simp only at hx hd ⊢
  have hex : ∀ e, e = i + (bytesOf f).length → s.extract i e = f := by
    intro e he
    refine bytesOf_eq ?_
    rw [bytesOf_extract, List.drop_take, hd, he, show i + (bytesOf f).length - i = (bytesOf f).length by omega, List.take_left]
  generalize hw : bytesOf f = w at hx hd hex
  cases w with
  | nil =>
    exfalso
    unfold tokM at hx
    split at hx
    · simp [nameM, inB] at hx
    · split at hx
      · rw [markM_len _ (by simp)] at hx; cases hx
      · cases hx
  | cons c a =>
    have hc : (bytesOf s)[i]? = some c := by
      have h0 : ((bytesOf s).drop i)[0]? = some c := by rw [hd]; rfl
      simpa using h0
    have hd1 : (bytesOf s).drop (i + 1) = a ++ r := by
      rw [← List.drop_drop, hd]; rfl
    refine ⟨?_, by simp⟩
    simp only [lexM, hc]
    unfold tokM at hx
    by_cases k1 : k = 1
    · subst k1
      rw [if_pos rfl] at hx
      have hl : inB c 97 122 = true ∧ nameM ((c :: a).length : Nat) 1 a = true := by
        rw [nameM] at hx
        split at hx
        · rename_i h1; exact ⟨h1, hx⟩
        · rw [if_pos rfl] at hx; cases hx
      have hrest := nameM_rest _ a 1 (by omega) hl.2
      have nb : ¬ blankM c = true := by
        have := inB_iff.1 hl.1
        unfold blankM
        rw [if_neg (by omega), if_neg (by omega), if_neg (by omega)]
        simp; omega
      rw [if_neg nb]
      simp only [if_pos hl.1]
      rw [hd1, runM_app a r hrest.1 hr]
      have he := hex (i + 1 + a.length) (by rw [List.length_cons]; omega)
      rw [he, hw]
      have ok : tokM 1 (c :: a) = true := by unfold tokM; rw [if_pos rfl]; exact hx
      rw [if_pos ok, if_neg (by omega), List.length_cons, show i + 1 + a.length = i + (a.length + 1) by omega]
    · rw [if_neg k1] at hx
      by_cases k2 : k = 2
      · subst k2
        rw [if_pos rfl] at hx
        have ha : a = [] := by
          by_cases h1 : (c :: a).length = 1
          · exact List.eq_nil_of_length_eq_zero (by simpa using h1)
          · rw [markM_len _ h1] at hx; cases hx
        subst ha
        have hm : c = 123 ∨ c = 125 ∨ c = 44 ∨ c = 59 := by
          unfold markM at hx
          split at hx
          · rename_i h; simp only [List.cons.injEq, and_true] at h; exact Or.inl h
          · split at hx
            · rename_i h; simp only [List.cons.injEq, and_true] at h; exact Or.inr (Or.inl h)
            · split at hx
              · rename_i h; simp only [List.cons.injEq, and_true] at h; exact Or.inr (Or.inr (Or.inl h))
              · simp only [decide_eq_true_eq, List.cons.injEq, and_true] at hx; exact Or.inr (Or.inr (Or.inr hx))
        have nb : ¬ blankM c = true := by
          unfold blankM
          rw [if_neg (by omega), if_neg (by omega), if_neg (by omega)]
          simp; omega
        have nl : ¬ inB c 97 122 = true := by
          intro h; have := inB_iff.1 h; omega
        rw [if_neg nb]
        simp only [if_neg nl]
        have he := hex (i + 1) (by simp)
        rw [he, hw]
        have ok : tokM 2 [c] = true := by unfold tokM; rw [if_neg (by decide), if_pos rfl]; exact hx
        rw [if_pos ok, if_neg (by omega), List.length_singleton]
      · rw [if_neg k2] at hx; cases hx
theorem lexM_sp (s : ByteArray) (n i : Nat) (t : List (S73)) (r : List Int) (hd : (bytesOf s).drop i = 32 :: r) : lexM s (n + 1) i t = lexM s n (i + 1) t := by
  have hc : (bytesOf s)[i]? = some 32 := by
    have h0 : ((bytesOf s).drop i)[0]? = some 32 := by rw [hd]; rfl
    simpa using h0
  simp only [lexM, hc]
  rw [if_pos (by rfl)]
def jbT (l : List (S73)) : List Int := l.flatMap fun y => 32 :: bytesOf y.f1
theorem jbT_head (l : List (S73)) : jbT l = [] ∨ (jbT l).head? = some 32 := by
  cases l with
  | nil => exact Or.inl rfl
  | cons x r => exact Or.inr rfl
theorem lexM_rest (s : ByteArray) : ∀ (l : List (S73)) (n i : Nat) (t : List (S73)), (∀ x ∈ l, tokM x.f0 (bytesOf x.f1) = true) → (bytesOf s).drop i = jbT l → i + (jbT l).length = s.size → (jbT l).length ≤ n → t.length + l.length ≤ 500 → lexM s n i t = (t ++ l, -1)
  | [], n, i, t, _, hd, hi, hn, ht => by
    rw [List.append_nil]
    exact lexM_end s n i t (by simpa [jbT] using hi)
  | x :: l, n, i, t, hg, hd, hi, hn, ht => by
    have e : jbT (x :: l) = 32 :: (bytesOf x.f1 ++ jbT l) := by simp [jbT]
    rw [e] at hd hi hn
    simp only [List.length_cons, List.length_append] at hi hn ht
    obtain ⟨n, rfl⟩ : ∃ m, n = m + 1 := ⟨n - 1, by omega⟩
    rw [lexM_sp s n i t _ hd]
    have hd1 : (bytesOf s).drop (i + 1) = bytesOf x.f1 ++ jbT l := by rw [← List.drop_drop, hd]; rfl
    have hpos : 0 < (bytesOf x.f1).length := (lexM_tok s 0 (i + 1) t x _ (hg x List.mem_cons_self) hd1 (jbT_head l) (by omega)).2
    obtain ⟨n, rfl⟩ : ∃ m, n = m + 1 := ⟨n - 1, by omega⟩
    rw [(lexM_tok s n (i + 1) t x _ (hg x List.mem_cons_self) hd1 (jbT_head l) (by omega)).1]
    rw [lexM_rest s l n _ (t ++ [x]) (fun y hy => hg y (List.mem_cons_of_mem _ hy)) (by rw [← List.drop_drop, hd1, List.drop_left]) (by omega) (by omega) (by rw [List.length_append, List.length_singleton]; omega)]
    rw [List.append_assoc, List.singleton_append]
theorem joinS_bytes (x : S73) (l : List (S73)) : bytesOf (joinS ((x :: l).map (·.f1)) spB) = bytesOf x.f1 ++ jbT l := by
  have h : (joinS ((x :: l).map (·.f1)) spB).data.toList = x.f1.data.toList ++ Lib.joinTail [32] ((l.map (·.f1)).map (·.data.toList)) := by
    simp only [joinS, List.map_cons]
    rw [Lib.join_cons]
    rfl
  have g : ∀ l : List (S73), (Lib.joinTail [32] ((l.map (·.f1)).map (·.data.toList))).map (fun b => (b.toNat : Int)) = jbT l := by
    intro l
    induction l with
    | nil => rfl
    | cons y r ih =>
      have e : Lib.joinTail [32] (((y :: r).map (·.f1)).map (·.data.toList)) = 32 :: (y.f1.data.toList ++ Lib.joinTail [32] ((r.map (·.f1)).map (·.data.toList))) := by simp [Lib.joinTail]
      rw [e, List.map_cons, List.map_append, ih]
      simp [jbT, bytesOf]
  have e : bytesOf (joinS ((x :: l).map (·.f1)) spB) = (joinS ((x :: l).map (·.f1)) spB).data.toList.map (fun b => (b.toNat : Int)) := rfl
  rw [e, h, List.map_append, g l]
  rfl
/-- What is joined is read again. -/
theorem lex_join (l : List (S73)) (hg : ∀ x ∈ l, tokM x.f0 (bytesOf x.f1) = true) (hl : l.length ≤ 500) : lexM (joinS (l.map (·.f1)) spB) (joinS (l.map (·.f1)) spB).size 0 [] = (l, -1) := by
  cases l with
  | nil =>
    have e : joinS (([] : List (S73)).map (·.f1)) spB = ⟨#[]⟩ := by simp [joinS, Lib.join, List.intercalate]
    rw [e]
    exact lexM_end _ _ 0 [] rfl
  | cons x r =>
    have hb := joinS_bytes x r
    generalize joinS ((x :: r).map (·.f1)) spB = s at hb
    have hs : s.size = (bytesOf x.f1).length + (jbT r).length := by rw [← bytesOf_length, hb, List.length_append]
    have hd : (bytesOf s).drop 0 = bytesOf x.f1 ++ jbT r := by rw [List.drop_zero]; exact hb
    have hpos : 0 < (bytesOf x.f1).length := (lexM_tok s 0 0 [] x _ (hg x List.mem_cons_self) hd (jbT_head r) (by simp)).2
    obtain ⟨n, hn⟩ : ∃ m, s.size = m + 1 := ⟨s.size - 1, by omega⟩
    rw [hn, (lexM_tok s n 0 [] x _ (hg x List.mem_cons_self) hd (jbT_head r) (by simp)).1]
    rw [lexM_rest s r n _ ([] ++ [x]) (fun y hy => hg y (List.mem_cons_of_mem _ hy)) (by rw [← List.drop_drop, hd, List.drop_left]) (by omega) (by omega) (by simp at hl ⊢; omega)]
    rfl

theorem FnLexed : ∀ (l0 : List Int), (l0.length * 1 ≤ 140737488351232 ∧ ∀ e0 ∈ l0, (0 ≤ e0 ∧ e0 ≤ 255)) → ∃ k, laws_FnLexed.f k l0 = some true := by
  intro l hl
  refine Ev.rounds ?_
  have e : EvP (fun k => laws_FnLexed.f k l) (fun r => r = true) := by
    unfold laws_FnLexed.f
    refine EvP.bind (P := fun a => a = decide ((l.length : Int) > 1048576)) (EvP.ev (ev_c rfl) rfl) (fun a ha => ?_)
    refine EvP.ite (fun _ => EvP.some_ rfl) (fun g => ?_)
    have hl2 : l.length ≤ 1048576 := by
      rw [ha, decide_eq_true_iff] at g
      omega
    refine EvP.bind (spec_DrawJoinTokens_evp l hl2) (fun d hd => ?_)
    have h20 := hd.1
    have hsum := sum_tok d hd.2
    have js := joinS_small d hd.1 hd.2
    have lj := lex_join d (fun x hx => (hd.2 x hx).1) (by omega)
    refine EvP.bind (P := fun a => a = joinS (d.map (·.f1)) spB) (EvP.ev (impl_JoinTokens_ev d (by omega) (by omega)) rfl) (fun s hs => ?_)
    subst hs
    refine EvP.bind (P := fun a => a = (d, -1)) (EvP.ev (impl_Lex_ev _ (by omega)) lj) (fun x hx => ?_)
    subst hx
    refine EvP.bind (spec_DrawLex_evp l hl2) (fun s hs => ?_)
    refine EvP.bind (P := fun a => a = lexM s s.size 0 []) (EvP.ev (impl_Lex_ev s hs) rfl) (fun y hy => ?_)
    refine EvP.bind (P := fun a => a = lexM s s.size 0 []) (EvP.ev (spec_Lex_ev s hs) rfl) (fun z hz => ?_)
    rw [← hz] at hy
    have bad := lexM_bad s s.size 0 []
    have ln := lexM_len s s.size 0 [] (by simp)
    rw [← hz] at bad ln
    subst hy
    refine EvP.bind (spec_DrawTokenOk_evp l hl2) (fun t ht => ?_)
    refine EvP.pos rfl (EvP.pos rfl (EvP.pos rfl (EvP.pos rfl ?_)))
    refine EvP.bind (P := fun a => a = tokM t.1 (bytesOf t.2)) (EvP.ev (impl_TokenOk_ev _ _ (by omega)) rfl) (fun p hp => ?_)
    refine EvP.bind (P := fun a => a = tokM t.1 (bytesOf t.2)) (EvP.ev (spec_TokenOk_ev _ _ (by omega)) rfl) (fun q hq => ?_)
    rw [hp, hq]
    refine EvP.neg (by simp) ?_
    have fin : EvP (fun k => laws_FnLexed.j0 k d d y.1 y.1 false) (fun r => r = true) := by
      refine EvP.step (fun k => by rw [laws_FnLexed.j0]) ?_; refine EvP.neg (by simp) ?_
      refine EvP.ev (a := true) ?_ rfl
      refine ev_pass (fun k i => laws_FnLexed.l0 k d d y.1 y.1 i) d true ?_ ?_
      · refine Ev.step (fun k => by rw [laws_FnLexed.l0]) ?_; refine ev_neg (by omega) ?_
        refine ev_pass (fun k i => laws_FnLexed.l1 k y.1 y.1 i) y.1 true ?_ ?_
        · refine Ev.step (fun k => by rw [laws_FnLexed.l1]) ?_
          exact ev_neg (by omega) (ev_some rfl)
        · intro i x hi hx ih
          refine Ev.step (fun k => by rw [laws_FnLexed.l1]) ?_; refine ev_pos (by omega) (ev_pos (by omega) (ev_pos (by omega) (ev_neg (by simp) ?_)))
          rw [wrap_succ (by omega)]
          exact ih
      · intro i x hi hx ih
        refine Ev.step (fun k => by rw [laws_FnLexed.l0]) ?_; refine ev_pos (by omega) (ev_pos (by omega) (ev_pos (by omega) (ev_neg (by simp) ?_)))
        rw [wrap_succ (by omega), show rd_T73 d (i : Int) = x from getD_at hx]
        have gx := hd.2 x (List.mem_of_getElem? hx)
        have sz := gx.2
        refine Ev.bind (impl_TokenOk_ev _ _ (by omega)) (ev_pos gx.1 ih)
    refine EvP.ite (fun _ => fin) (fun c => ?_)
    have hn : y.1 = [] := by
      rcases bad with b | b
      · exact absurd b c
      · exact b
    have e0 : decide ((y.1.length : Int) > 0) = false := by rw [hn]; rfl
    rw [e0]
    exact fin
  obtain ⟨r, hr, h⟩ := e
  exact h ▸ hr

end Go.Proofs.Ytllgmgpfdnofmaa.Pure
