/- The law FnExactTokenOk in plain words: what the printed functions answer, and that the two agree. Its conditions: the bounds that memory sets. -/
import Derived.Test.YthpiinnmmdaloaaPFnExactTokenOkx1
import Derived.Test.YthpiinnmmdaloaaKit
namespace Go.Proofs.Ythpiinnmmdaloaa.Pure
open Go.RowKit Go.Proofs.Ythpiinnmmdaloaa.PFnExactTokenOk Go.Proofs.YthpiinnmmdaloaaW.PrintWords Go.Proofs.YthpiinnmmdaloaaW.PrintLast Go.Proofs.YthpiinnmmdaloaaW.PrintMore Go.Proofs.Ythpiinnmmdaloaa.Kit

theorem laws_szToken_eq (a : Int) (s : ByteArray) (left : Int) (h0 : 0 ≤ left) (h1 : left ≤ 1048576) (hs : s.size ≤ 140737488351232) : laws_szToken.f a s left = some (szM left s.size) := by
  unfold laws_szToken.f szM
  rw [wrap_id (by omega) (by omega)]
  split <;> rfl

theorem spec_l1In_eq (a b c : Int) : spec_l1In.f a b c = some (inB a b c) := by unfold spec_l1In.f inB; split <;> rfl

theorem spec_l8Small_eq (c : Int) (h : 0 ≤ c ∧ c ≤ 255) : spec_l8Small.f c = some (inB c 97 122) := by
  unfold spec_l8Small.f
  rw [wrap_id (by omega) (by omega), spec_l1In_eq]; rfl

theorem spec_l2Digit_eq (c : Int) (h : 0 ≤ c ∧ c ≤ 255) : spec_l2Digit.f c = some (inB c 48 57) := by
  unfold spec_l2Digit.f
  rw [wrap_id (by omega) (by omega), spec_l1In_eq]; rfl

theorem spec_l8Name_ev (s : ByteArray) (hs : s.size ≤ 140737488351232) : Ev (fun k => spec_l8Name.f k s) (nameM s.size 0 (bytesOf s)) := by
  refine ev_list0 (fun k i => spec_l8Name.l0 k s i) (bytesOf s) (nameM s.size) ?_ ?_
  · refine Ev.step (fun k => by rw [spec_l8Name.l0]) ?_
    refine ev_neg (by rw [size_len]; omega) ?_
    exact Ev.bind (ev_c (spec_l1In_eq _ _ _)) (ev_some rfl)
  · intro i x r hi hx hd ih
    have hb := bt_at' hx
    have hr := bt_range s (i : Int)
    refine Ev.step (fun k => by rw [spec_l8Name.l0]) ?_
    refine ev_pos (by rw [size_len]; omega) (ev_pos (by omega) ?_)
    rw [wrap_succ (by rw [bytesOf_length] at hi; omega)]
    rw [hb] at hr ⊢
    refine Ev.bind (ev_c (spec_l8Small_eq _ hr)) ?_
    unfold nameM
    by_cases c1 : inB x 97 122 = true
    · rw [if_pos c1]; exact ev_pos c1 ih
    · rw [if_neg c1]
      refine ev_neg c1 ?_
      by_cases c2 : i = 0
      · rw [if_pos c2]; exact ev_pos (by omega) (ev_some rfl)
      · rw [if_neg c2]
        refine ev_neg (by omega) (Ev.bind (ev_c (spec_l2Digit_eq _ hr)) ?_)
        by_cases c3 : inB x 48 57 = true
        · rw [if_pos c3]; exact ev_pos c3 ih
        · rw [if_neg c3]; exact ev_neg c3 (ev_some rfl)

theorem spec_l8Mark_eq (s : ByteArray) : spec_l8Mark.f s = some (markM (bytesOf s)) := by
  unfold spec_l8Mark.f markM
  have e1 := toList_one s 123
  have e2 := toList_one s 125
  have e3 := toList_one s 44
  have e4 := toList_one s 59
  have e5 : (s.toList == ([59] : List UInt8)) = decide (bytesOf s = [59]) := by rw [Bool.eq_iff_iff]; simp only [beq_iff_eq, decide_eq_true_eq]; exact e4
  rw [e5]
  simp only [e1, e2, e3]
  by_cases h1 : bytesOf s = [123] <;> by_cases h2 : bytesOf s = [125] <;> by_cases h3 : bytesOf s = [44] <;> simp [h1, h2, h3]

theorem spec_TokenOk_ev (a : Int) (s : ByteArray) (hs : s.size ≤ 140737488351232) : Ev (fun k => spec_TokenOk.f k a s) (tokM a (bytesOf s)) := by
  unfold spec_TokenOk.f tokM
  refine ev_ite (fun h => ?_) (fun h => ?_)
  · rw [if_pos h]
    refine Ev.bind (spec_l8Name_ev s hs) (ev_some ?_)
    rw [bytesOf_length]
  · rw [if_neg h]
    refine ev_ite (fun h2 => ?_) (fun h2 => ?_)
    · rw [if_pos h2]; exact Ev.bind (ev_c (spec_l8Mark_eq s)) (ev_some rfl)
    · rw [if_neg h2]; exact ev_some rfl

theorem impl_in_eq (a b c : Int) : impl_in.f a b c = some (inB a b c) := by unfold impl_in.f inB; split <;> rfl

theorem impl_isLetter_eq (a : Int) : impl_isLetter.f a = some (inB a 97 122) := by unfold impl_isLetter.f inB; split <;> rfl

theorem impl_isDigit_eq (a : Int) : impl_isDigit.f a = some (inB a 48 57) := by unfold impl_isDigit.f inB; split <;> rfl

theorem impl_nameOk_ev (s : ByteArray) (hs : s.size ≤ 140737488351232) : Ev (fun k => impl_nameOk.f k s) (nameM s.size 0 (bytesOf s)) := by
  refine ev_list0 (fun k i => impl_nameOk.l0 k s i) (bytesOf s) (nameM s.size) ?_ ?_
  · refine Ev.step (fun k => by rw [impl_nameOk.l0]) ?_
    refine ev_neg (by rw [size_len]; omega) ?_
    exact Ev.bind (ev_c (impl_in_eq _ _ _)) (ev_some rfl)
  · intro i x r hi hx hd ih
    have hb := bt_at' hx
    refine Ev.step (fun k => by rw [impl_nameOk.l0]) ?_
    refine ev_pos (by rw [size_len]; omega) (ev_pos (by omega) ?_)
    rw [wrap_succ (by rw [bytesOf_length] at hi; omega)]
    refine Ev.bind (ev_c (impl_isLetter_eq _)) ?_
    rw [hb]
    unfold nameM
    by_cases c1 : inB x 97 122 = true
    · rw [if_pos c1]; exact ev_pos c1 ih
    · rw [if_neg c1]
      refine ev_neg c1 ?_
      by_cases c2 : i = 0
      · rw [if_pos c2]; exact ev_pos (by omega) (ev_some rfl)
      · rw [if_neg c2]
        refine ev_neg (by omega) (Ev.bind (ev_c (impl_isDigit_eq _)) ?_)
        by_cases c3 : inB x 48 57 = true
        · rw [if_pos c3]; exact ev_pos c3 ih
        · rw [if_neg c3]; exact ev_neg c3 (ev_some rfl)

theorem impl_isMark_eq (c : Int) : impl_isMark.f c = some (markM [c]) := by
  unfold impl_isMark.f markM
  by_cases h1 : c = 123 <;> by_cases h2 : c = 125 <;> by_cases h3 : c = 44 <;> by_cases h4 : c = 59 <;> simp [h1, h2, h3, h4]

theorem impl_TokenOk_ev (a : Int) (s : ByteArray) (hs : s.size ≤ 140737488351232) : Ev (fun k => impl_TokenOk.f k a s) (tokM a (bytesOf s)) := by
  unfold impl_TokenOk.f tokM
  refine ev_ite (fun h => ?_) (fun h => ?_)
  · rw [if_pos h]
    refine Ev.bind (impl_nameOk_ev s hs) (ev_some ?_)
    rw [bytesOf_length]
  · rw [if_neg h]
    refine ev_ite (fun h2 => ?_) (fun h2 => ?_)
    · rw [if_pos h2]
      refine ev_ite (fun h3 => ?_) (fun h3 => ?_)
      · refine ev_pos (by omega) ?_
        have hl : (bytesOf s).length = 1 := by rw [bytesOf_length]; omega
        obtain ⟨x, hx⟩ := List.length_eq_one_iff.1 hl
        have hb : bt s 0 = x := bt_at' (i := 0) (by rw [hx]; rfl)
        rw [hb, hx]
        exact Ev.bind (ev_c (impl_isMark_eq x)) (ev_some rfl)
      · refine ev_some (markM_len _ ?_).symm
        rw [bytesOf_length]; omega
    · rw [if_neg h2]; exact ev_some rfl

theorem FnExactTokenOk : ∀ (a0_0 : Int) (a0_1 : ByteArray), (-9223372036854775808 ≤ a0_0 ∧ a0_0 ≤ 9223372036854775807) → a0_1.size ≤ 140737488351232 → ∃ k, laws_FnExactTokenOk.f k a0_0 a0_1 = some true := by
  intro a s _ hs
  refine Ev.rounds ?_
  unfold laws_FnExactTokenOk.f
  refine Ev.bind (ev_c (laws_szToken_eq a s _ (by omega) (by omega) hs)) ?_
  refine ev_ite (fun _ => ev_some rfl) (fun _ => ?_)
  refine Ev.bind (ev_c (show laws_toToken.f a s = some (a, s) from rfl)) ?_
  refine Ev.bind (spec_TokenOk_ev a s hs) ?_
  refine Ev.bind (ev_c (show laws_toToken.f a s = some (a, s) from rfl)) ?_
  refine Ev.bind (impl_TokenOk_ev a s hs) ?_
  exact ev_neg (by simp) (ev_some rfl)

end Go.Proofs.Ythpiinnmmdaloaa.Pure
