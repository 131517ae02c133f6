/- Functions of the program by their own lists and numbers. No condition beyond those in each statement. -/
import Derived.Test.YthadcmcdbcfjaaaGreatDoorPvLKx3
import Derived.Lib.Join
import Derived.KernelRfl
set_option linter.unusedVariables false
set_option linter.unusedSimpArgs false
set_option linter.unusedVariables false
namespace Go.PV.T
open Go Go.Proofs
theorem in_def (a lo hi : Int) : (bif decide (a ≥ lo) then some (decide (a ≤ hi)) else some false) = some (inB a lo hi) := by
 by_cases h : lo ≤ a <;> simp [inB, h]
theorem impl_in.sp {d : Nat} (hd : 1 ≤ d) (a lo hi : Int) : impl_in.f d (a, lo, hi) = some (inB a lo hi) := by
 obtain ⟨d, rfl, hd⟩ := dep hd
 rw [impl_in.t_eq]
 exact in_def a lo hi
theorem spec_l1In.sp {d : Nat} (hd : 1 ≤ d) (a lo hi : Int) : spec_l1In.f d (a, lo, hi) = some (inB a lo hi) := by
 obtain ⟨d, rfl, hd⟩ := dep hd
 rw [spec_l1In.t_eq]
 exact in_def a lo hi
theorem okRow_len {cs : SS} {l : List cs.T} (h : okV (.row cs) l) : l.length ≤ 140737488351232 := Nat.le_trans (Nat.le_mul_of_pos_right _ (SS.size_pos cs)) h.1
theorem impl_copyBytes.sp {d : Nat} (hd : 1 ≤ d) {l : List Int} (hl : l.length ≤ 140737488351232) : impl_copyBytes.f d l = some l := by
 obtain ⟨d, rfl, _⟩ := dep hd
 rw [impl_copyBytes.t_eq]
 dsimp only [impl_copyBytes.m]
 exact Tells.eq (tp (by simp only [List.length_nil, Nat.zero_add]; omega) (tl rfl))
theorem xx_u32 {a b : Nat} (ha : a < 2 ^ 32) (hb : b < 2 ^ 32) : IntKind.wrap IntKind.u32 ((BitVec.ofInt (IntKind.bits IntKind.u32) (a : Int) ^^^ BitVec.ofInt (IntKind.bits IntKind.u32) (b : Int)).toNat : Int) = ((a ^^^ b : Nat) : Int) := xor_u32 a b ha hb
theorem xx_i64 {a b : Nat} (ha : a < 2 ^ 32) (hb : b < 2 ^ 32) : IntKind.wrap IntKind.i64 ((BitVec.ofInt (IntKind.bits IntKind.i64) (a : Int) ^^^ BitVec.ofInt (IntKind.bits IntKind.i64) (b : Int)).toNat : Int) = ((a ^^^ b : Nat) : Int) := xor_i64 a b ha hb
theorem a1_u32 {a : Nat} (ha : a < 2 ^ 32) : IntKind.wrap IntKind.u32 ((BitVec.ofInt (IntKind.bits IntKind.u32) (a : Int) &&& BitVec.ofInt (IntKind.bits IntKind.u32) (1 : Int)).toNat : Int) = (a : Int) % 2 := and1_u32 a ha
theorem a1_i64 {a : Nat} (ha : a < 2 ^ 32) : IntKind.wrap IntKind.i64 ((BitVec.ofInt (IntKind.bits IntKind.i64) (a : Int) &&& BitVec.ofInt (IntKind.bits IntKind.i64) (1 : Int)).toNat : Int) = (a : Int) % 2 := and1_i64 a ha
theorem half (a : Nat) (k : Nat) (hk : 1 ≤ k) : Int.fdiv (a : Int) (2 ^ (min (Int.toNat (1 : Int)) k)) = ((a / 2 : Nat) : Int) := by
 rw [show min (Int.toNat (1 : Int)) k = 1 by simp; omega, show (2 : Int) ^ 1 = 2 from rfl, Int.fdiv_eq_ediv_of_nonneg _ (by omega)]
 omega
theorem eight {A R : Type} (s : (A → Option R) → A → Option R) (mk : Nat → Int → A) (P : R → Prop) {x : Nat} (hx : x < 2 ^ 32)
  (base : ∀ L, Tells (s L (mk (crcN 8 x) 8)) P)
  (step : ∀ L (y j : Nat) Q, y < 2 ^ 32 → j < 8 → Tells (L (mk (crcStep y) ((j + 1 : Nat) : Int))) Q → Tells (s L (mk y (j : Int))) Q) : Tells (iter s rnds (mk x 0)) P := by
 refine loop0 (σ := Nat) s 8 mk (fun y j => y < 2 ^ 32 ∧ crcN (8 - j) y = crcN 8 x) (fun _ _ => P) x (by omega) ⟨hx, rfl⟩ ?_ ?_
 ·rintro L y ⟨_, h⟩
  have : y = crcN 8 x := h
  rw [this]
  exact base L
 ·rintro L y j ⟨h1, h2⟩ hj ih
  refine step L y j _ h1 hj (ih _ ⟨crcStep_lt h1, ?_⟩)
  rw [← h2, show 8 - j = (8 - (j + 1)) + 1 by omega]
  rfl
theorem byte_wrap_u32 {b : Int} (h0 : 0 ≤ b) (h1 : b ≤ 255) : IntKind.wrap IntKind.u32 b = ((b.toNat : Nat) : Int) := by
 rw [wraps_u32 b h0 (by omega)]; omega
theorem byte_wrap_i64 {b : Int} (h0 : 0 ≤ b) (h1 : b ≤ 255) : IntKind.wrap IntKind.i64 b = ((b.toNat : Nat) : Int) := by
 rw [wrap_id (by omega) (by omega)]; omega
theorem impl_Crc.sp {d : Nat} (hd : 1 ≤ d) {l : List Int} (hl : l.length ≤ 140737488355328) (hb : ∀ b ∈ l, 0 ≤ b ∧ b ≤ 255) : impl_Crc.f d l = some (crcM l) := by
 obtain ⟨d, rfl, _⟩ := dep hd
 rw [impl_Crc.t_eq]
 dsimp only [impl_Crc.m]
 refine Tells.eq ?_
 refine loop0 (σ := Nat) (impl_Crc.S0 d) l.length (fun x i => ((x : Int), l, (l.length : Int), i)) (fun x _ => x < 2 ^ 32) (fun x i r => r = ((crcFold x (l.drop i) ^^^ 4294967295 : Nat) : Int)) 4294967295 (by omega) (by decide) ?_ ?_
 ·intro L x hx
  dsimp only [impl_Crc.S0, impl_Crc.s0]
  refine tn (by omega) (tl ?_)
  have e : (if IntKind.signed IntKind.u32 = true then (-1 : Int) else IntKind.max IntKind.u32) = ((4294967295 : Nat) : Int) := by decide
  rw [e, xx_u32 (by decide) hx, List.drop_length]
  have := Nat.xor_lt_two_pow (show 4294967295 < 2 ^ 32 by decide) hx
  rw [wrap_id (by omega) (by omega)]
  show _ = ((x ^^^ 4294967295 : Nat) : Int)
  rw [Nat.xor_comm]
 ·intro L x i hx hi ih
  have hbb := hb _ (List.getElem_mem hi)
  dsimp only [impl_Crc.S0, impl_Crc.s0]
  rw [drop_at hi, getD_in hi, byte_wrap_u32 hbb.1 hbb.2, xx_u32 hx (by omega)]
  refine tp (by omega) (ti hi ?_)
  refine eight (impl_Crc.S2 d L) (fun y j => ((y : Int), l, (l.length : Int), (i : Int), j)) _ (Nat.xor_lt_two_pow hx (by omega)) (fun L2 => ?_) fun L2 y j Q hy hj ih2 => ?_
  ·dsimp only [impl_Crc.S2, impl_Crc.s2]
   rw [wrap_succ (by omega)]
   exact tn (by omega) (ih (crcByte x l[i]) (crcByte_lt hx hbb.2))
  ·dsimp only [impl_Crc.S2, impl_Crc.s2]
   rw [a1_u32 hy, half y _ (by decide), wrap_succ (by omega), show ((2197175160 : Int)) = ((2197175160 : Nat) : Int) from rfl, xx_u32 (by omega) (by decide)]
   unfold crcStep at ih2
   refine tp (by omega) (tp (by decide) (tbif (fun h => ?_) fun h => ?_))
   ·have : (y : Int) % 2 = 1 := by simpa using h
    rwa [if_pos (by omega)] at ih2
   ·have : ¬ (y : Int) % 2 = 1 := by simpa using h
    rwa [if_neg (by omega)] at ih2
theorem spec_Crc.sp {d : Nat} (hd : 1 ≤ d) {l : List Int} (hl : l.length ≤ 140737488355328) (hb : ∀ b ∈ l, 0 ≤ b ∧ b ≤ 255) : spec_Crc.f d l = some (crcM l) := by
 obtain ⟨d, rfl, _⟩ := dep hd
 rw [spec_Crc.t_eq]
 dsimp only [spec_Crc.m]
 refine Tells.eq ?_
 refine loop0 (σ := Nat) (spec_Crc.S0 d) l.length (fun x i => (l, (x : Int), i)) (fun x _ => x < 2 ^ 32) (fun x i r => r = ((crcFold x (l.drop i) ^^^ 4294967295 : Nat) : Int)) 4294967295 (by omega) (by decide) ?_ ?_
 ·intro L x hx
  dsimp only [spec_Crc.S0, spec_Crc.s0]
  refine tn (by omega) (tl ?_)
  rw [show ((4294967295 : Int)) = ((4294967295 : Nat) : Int) from rfl, xx_i64 hx (by decide), List.drop_length]
  rfl
 ·intro L x i hx hi ih
  have hbb := hb _ (List.getElem_mem hi)
  dsimp only [spec_Crc.S0, spec_Crc.s0]
  rw [drop_at hi, getD_in hi, byte_wrap_i64 hbb.1 hbb.2, xx_i64 hx (by omega)]
  refine tp (by omega) (ti hi ?_)
  refine eight (spec_Crc.S2 d L) (fun y j => (l, (y : Int), (i : Int), j)) _ (Nat.xor_lt_two_pow hx (by omega)) (fun L2 => ?_) fun L2 y j Q hy hj ih2 => ?_
  ·dsimp only [spec_Crc.S2, spec_Crc.s2]
   rw [wrap_succ (by omega)]
   exact tn (by omega) (ih (crcByte x l[i]) (crcByte_lt hx hbb.2))
  ·dsimp only [spec_Crc.S2, spec_Crc.s2]
   rw [a1_i64 hy, half y _ (by decide), wrap_succ (by omega), show ((2197175160 : Int)) = ((2197175160 : Nat) : Int) from rfl, xx_i64 (by omega) (by decide)]
   unfold crcStep at ih2
   refine tp (by omega) (tp (by decide) (tbif (fun h => ?_) fun h => ?_))
   ·have : (y : Int) % 2 = 1 := by simpa using h
    rwa [if_pos (by omega)] at ih2
   ·have : ¬ (y : Int) % 2 = 1 := by simpa using h
    rwa [if_neg (by omega)] at ih2
theorem impl_clamp.sp {d : Nat} (hd : 1 ≤ d) (n : Int) : impl_clamp.f d (n, 0, 1000000) = some (clampU n) := by
 obtain ⟨d, rfl, _⟩ := dep hd
 rw [impl_clamp.t_eq]
 dsimp only [impl_clamp.m]
 rw [clampU_mx]
 rfl
theorem u8_id {x : Int} (h0 : 0 ≤ x) (h1 : x ≤ 255) : IntKind.wrap IntKind.u8 x = x := by
 rw [IntKind.wrap_u8]; omega
theorem impl_addU.sp {d : Nat} (hd : 2 ≤ d) {l : List Int} {n : Int} (hl : l.length ≤ 100000000000) : impl_addU.f d (l, n) = some (l ++ uM n) := by
 obtain ⟨d, rfl, _⟩ := dep hd
 rw [impl_addU.t_eq]
 dsimp only [impl_addU.m]
 refine Tells.eq (tc (impl_clamp.sp (by omega) n) ?_)
 have hc := clampU_bd n
 unfold uM
 generalize clampU n = m at hc
 have last : ∀ (m : Int) (s : List Int) k, 0 ≤ m → m ≤ 127 → s.length ≤ 100000000010 → Tells (iter (impl_addU.S0 d) (k + 1) (m, s)) (· = s ++ [m]) := fun m s k h0 h1 h2 => by
  simp only [iter]
  dsimp only [impl_addU.S0, impl_addU.s0]
  rw [u8_id h0 (by omega)]
  exact tn (by omega) (tp (by simp; omega) (tl rfl))
 have more : ∀ (m : Int) (s : List Int) k Q, 127 < m → m ≤ 1000000 → s.length ≤ 100000000010 → Tells (iter (impl_addU.S0 d) k (m / 128, s ++ [m % 128 + 128])) Q → Tells (iter (impl_addU.S0 d) (k + 1) (m, s)) Q := fun m s k Q h0 h1 h2 ih => by
  simp only [iter]
  dsimp only [impl_addU.S0, impl_addU.s0]
  rw [Int.tmod_eq_emod_of_nonneg (by omega), Int.tdiv_eq_ediv_of_nonneg (by omega), wrap_id (x := m % 128 + 128) (by omega) (by omega), wrap_id (x := m / 128) (by omega) (by omega), u8_id (by omega) (by omega)]
  exact tp (by omega) (tp (by decide) (tp (by simp; omega) (tp (by decide) ih)))
 obtain ⟨k, hk⟩ : ∃ k, rnds = k + 1 + 1 + 1 := ⟨rnds - 3, by have := rnds_gt (n := 3) (by omega); omega⟩
 rw [hk]
 unfold groups
 by_cases c : m > 127
 ·rw [if_pos c]
  refine more _ _ _ _ c hc.2 (by omega) ?_
  by_cases c2 : m / 128 > 127
  ·rw [if_pos c2]
   refine more _ _ _ _ c2 (by omega) (by simp; omega) ?_
   have e : m / 128 / 128 = m / 16384 := by omega
   rw [e]
   exact (last _ _ _ (by omega) (by omega) (by simp; omega)).mono fun r hr => by rw [hr]; simp
  ·rw [if_neg c2]
   exact (last _ _ _ (by omega) (by omega) (by simp; omega)).mono fun r hr => by rw [hr]; simp
 ·rw [if_neg c]
  exact last _ _ _ (by omega) (by omega) (by omega)
theorem impl_addText.sp {d : Nat} (hd : 3 ≤ d) {l : List Int} {s : ByteArray} (hl : l.length ≤ 100000000000) (hs : s.size ≤ 1000000000) : impl_addText.f d (l, s) = some (l ++ txtM s) := by
 obtain ⟨d, rfl, _⟩ := dep hd
 rw [impl_addText.t_eq]
 dsimp only [impl_addText.m]
 have := uM_len s.size
 refine Tells.eq (tc (impl_addU.sp (by omega) hl) (tp ?_ (tl ?_)))
 ·have h2 : (strNums s).length = s.size := by simp [strNums]
  rw [h2, List.length_append]; omega
 ·unfold txtM
  rw [List.append_assoc]
theorem shr8 (c : Int) (k : Int) (j : Nat) (hk : k = 8 * (j : Int)) (hj : j ≤ 7) : Int.fdiv c (2 ^ (min (Int.toNat k) (IntKind.bits IntKind.i64))) = c / 256 ^ j := by
 subst hk
 exact shr_at c j hj
theorem impl_addSum.sp {d : Nat} (hd : 2 ≤ d) {l : List Int} (hl : l.length ≤ 100000000000) (hb : ∀ b ∈ l, 0 ≤ b ∧ b ≤ 255) : impl_addSum.f d l = some (l ++ sum4 (crcM l)) := by
 obtain ⟨d, rfl, _⟩ := dep hd
 rw [impl_addSum.t_eq]
 dsimp only [impl_addSum.m]
 refine Tells.eq (tc (impl_Crc.sp (by omega) (by omega) hb) (tp (by decide) (tp (by decide) (tp (by decide) (tp ?_ (tl ?_))))))
 ·simp only [List.length_cons, List.length_nil]; omega
 ·have hc := crcM_bd l fun b h => (hb b h).2
  rw [shr8 _ 24 3 rfl (by omega), shr8 _ 16 2 rfl (by omega), shr8 _ 8 1 rfl (by omega)]
  simp only [IntKind.wrap_u8, sum4]
  rfl
theorem spec_PutSum.sp {d : Nat} (hd : 2 ≤ d) {l : List Int} (hl : l.length ≤ 100000000000) (hb : ∀ b ∈ l, 0 ≤ b ∧ b ≤ 255) : spec_PutSum.f d l = some (l ++ sum4 (crcM l)) := by
 obtain ⟨d, rfl, _⟩ := dep hd
 rw [spec_PutSum.t_eq]
 dsimp only [spec_PutSum.m]
 refine Tells.eq (tc (spec_Crc.sp (by omega) (by omega) hb) (tp ?_ (tp (by decide) (tp (by decide) (tp (by decide) (tp ?_ (tl ?_)))))))
 ·simp only [List.length_nil]; omega
 ·simp only [List.length_cons, List.length_nil, List.nil_append]; omega
 ·rw [shr8 _ 24 3 rfl (by omega), shr8 _ 16 2 rfl (by omega), shr8 _ 8 1 rfl (by omega)]
  simp only [IntKind.wrap_u8, sum4, List.nil_append]
  rfl
theorem spec_PutU.sp {d : Nat} (hd : 1 ≤ d) {l : List Int} {n : Int} (hl : l.length ≤ 100000000000) : spec_PutU.f d (l, n) = some (l ++ uM n) := by
 obtain ⟨d, rfl, _⟩ := dep hd
 rw [spec_PutU.t_eq]
 dsimp only [spec_PutU.m]
 have last : ∀ (m : Int) (s : List Int) k, 0 ≤ m → m ≤ 127 → s.length ≤ 100000000010 → Tells (iter (spec_PutU.S0 d) (k + 1) (m, s)) (· = s ++ [m]) := fun m s k h0 h1 h2 => by
  simp only [iter]
  dsimp only [spec_PutU.S0, spec_PutU.s0]
  rw [u8_id h0 (by omega)]
  exact tn (by omega) (tp (by simp; omega) (tl rfl))
 have more : ∀ (m : Int) (s : List Int) k Q, 127 < m → m ≤ 1000000 → s.length ≤ 100000000010 → Tells (iter (spec_PutU.S0 d) k (m / 128, s ++ [m % 128 + 128])) Q → Tells (iter (spec_PutU.S0 d) (k + 1) (m, s)) Q := fun m s k Q h0 h1 h2 ih => by
  simp only [iter]
  dsimp only [spec_PutU.S0, spec_PutU.s0]
  have e7 : Int.fdiv m (2 ^ (min (Int.toNat (7 : Int)) (IntKind.bits IntKind.i64))) = m / 128 := by
   rw [show min (Int.toNat (7 : Int)) (IntKind.bits IntKind.i64) = 7 from rfl, show (2 : Int) ^ 7 = 128 from rfl, Int.fdiv_eq_ediv_of_nonneg _ (by omega)]
  rw [show IntKind.wrap IntKind.i64 ((BitVec.ofInt (IntKind.bits IntKind.i64) m &&& BitVec.ofInt (IntKind.bits IntKind.i64) (127 : Int)).toNat : Int) = m % 128 from and127 m (by omega) (by omega),
   show IntKind.wrap IntKind.i64 ((BitVec.ofInt (IntKind.bits IntKind.i64) (m % 128) ||| BitVec.ofInt (IntKind.bits IntKind.i64) (128 : Int)).toNat : Int) = m % 128 + 128 from or128 _ (by omega) (by omega), u8_id (by omega) (by omega), e7]
  exact tp (by omega) (tp (by simp; omega) (tp (by decide) ih))
 have all : ∀ m : Int, 0 ≤ m → m ≤ 1000000 → Tells (iter (spec_PutU.S0 d) rnds (m, [] ++ l)) (· = l ++ groups m) := fun m h0 h1 => by
  rw [List.nil_append]
  obtain ⟨k, hk⟩ : ∃ k, rnds = k + 1 + 1 + 1 := ⟨rnds - 3, by have := rnds_gt (n := 3) (by omega); omega⟩
  rw [hk]
  unfold groups
  by_cases c : m > 127
  ·rw [if_pos c]
   refine more _ _ _ _ c h1 (by omega) ?_
   by_cases c2 : m / 128 > 127
   ·rw [if_pos c2]
    refine more _ _ _ _ c2 (by omega) (by simp; omega) ?_
    have e : m / 128 / 128 = m / 16384 := by omega
    rw [e]
    exact (last _ _ _ (by omega) (by omega) (by simp; omega)).mono fun r hr => by rw [hr]; simp
   ·rw [if_neg c2]
    exact (last _ _ _ (by omega) (by omega) (by simp; omega)).mono fun r hr => by rw [hr]; simp
  ·rw [if_neg c]
   exact last _ _ _ (by omega) (by omega) (by omega)
 unfold uM clampU
 refine Tells.eq (tp (by simp only [List.length_nil]; omega) (tif (fun c => tn (by decide) ?_) fun c => tif (fun c2 => ?_) fun c2 => ?_))
 ·rw [if_neg (by omega), if_pos c]; exact all _ (by omega) (by omega)
 ·rw [if_pos c2]; exact all _ (by omega) (by omega)
 ·rw [if_neg c2, if_neg c]; exact all _ (by omega) (by omega)
theorem spec_PutText.sp {d : Nat} (hd : 2 ≤ d) {l : List Int} {s : ByteArray} (hl : l.length ≤ 100000000000) (hs : s.size ≤ 1000000000) : spec_PutText.f d (l, s) = some (l ++ txtM s) := by
 obtain ⟨d, rfl, _⟩ := dep hd
 rw [spec_PutText.t_eq]
 dsimp only [spec_PutText.m]
 have := uM_len s.size
 refine Tells.eq (tc (spec_PutU.sp (by omega) hl) (tp ?_ (tl ?_)))
 ·have h2 : (strNums s).length = s.size := by simp [strNums]
  rw [h2, List.length_append]; omega
 ·unfold txtM
  rw [List.append_assoc]
abbrev Col := ByteArray × Int × Bool
abbrev By := Int × Bool
abbrev Ix := ByteArray × Bool × List (Int × Bool)
abbrev Df := ByteArray × List (ByteArray × Int × Bool) × List (Int × Bool) × List (ByteArray × Bool × List (Int × Bool))
abbrev Vl := Int × Int × ByteArray
abbrev Pt := Int × Int × Bool × Bool
theorem loopL {A R β : Type} (s : (A → Option R) → A → Option R) (l : List β) (mk : Int → A) (F : Nat → List β → R) (hl : l.length ≤ 4611686018427387904)
  (base : ∀ L, Tells (s L (mk (l.length : Int))) (· = F l.length []))
  (step : ∀ L i (hi : i < l.length), Tells (L (mk ((i + 1 : Nat) : Int))) (· = F (i + 1) (l.drop (i + 1))) → Tells (s L (mk (i : Int))) (· = F i (l[i] :: l.drop (i + 1)))) :
  Tells (iter s rnds (mk (0 : Int))) (· = F 0 l) := by
 have := loopE s l.length mk (fun i r => r = F i (l.drop i)) hl (fun L => by
  rw [List.drop_length]; exact base L) fun L i hi ih => by
  rw [drop_at hi]; exact step L i hi ih
 simpa using this
theorem loopStop {A R β : Type} (s : (A → Option R) → A → Option R) (l : List β) (mk : Int → A) (p : β → Bool) (v R0 : R) (hl : l.length ≤ 4611686018427387904)
  (base : ∀ L, Tells (s L (mk (l.length : Int))) (· = R0))
  (step : ∀ L i (hi : i < l.length) e, Tells (L (mk ((i + 1 : Nat) : Int))) (· = e) → Tells (s L (mk (i : Int))) (· = bif p l[i] then v else e)) :
  Tells (iter s rnds (mk (0 : Int))) (· = bif l.any p then v else R0) := by
 refine loopL s l mk (fun _ r => bif r.any p then v else R0) hl (fun L => base L) fun L i hi ih => ?_
 refine (step L i hi _ ih).mono fun r hr => ?_
 rw [hr, List.any_cons]
 cases p l[i] <;> rfl
def wordsL : List ByteArray := [(⟨#[116, 97, 98, 108, 101]⟩ : ByteArray), (⟨#[112, 114, 105, 109, 97, 114, 121]⟩ : ByteArray), (⟨#[117, 110, 105, 113, 117, 101]⟩ : ByteArray), (⟨#[105, 110, 100, 101, 120]⟩ : ByteArray), (⟨#[110, 117, 108, 108]⟩ : ByteArray), (⟨#[100, 101, 115, 99]⟩ : ByteArray), (⟨#[105, 110, 116]⟩ : ByteArray), (⟨#[110, 117, 109]⟩ : ByteArray), (⟨#[116, 101, 120, 116]⟩ : ByteArray), (⟨#[98, 111, 111, 108]⟩ : ByteArray)]
theorem toList_inj {a b : ByteArray} (h : a.toList = b.toList) : a = b := by
 rw [ByteArray.toList_eq, ByteArray.toList_eq] at h
 exact ByteArray.ext (Array.toList_inj.1 h)
def isT (a b : ByteArray) : Bool := a.toList == b.toList
theorem isT_iff {a b : ByteArray} : isT a b = true ↔ a = b := by
 unfold isT
 rw [beq_iff_eq]
 exact ⟨toList_inj, fun h => by rw [h]⟩
def freeM (s : ByteArray) : Bool := nameM s.size 0 (bytesOf s) && !(wordsL.any fun w => isT w s)
def namesM (d : Df) : Bool := d.2.1.all (fun c => freeM c.1) && (d.2.2.2.all (fun x => freeM x.1) && freeM d.1)
def typesM (cs : List Col) : Bool := cs.all (fun c => inB c.2.1 1 4) && inB cs.length 1 6
def onceR : List ByteArray → List ByteArray → Bool
 | _, [] => true
 | p, x :: r => !(p.any fun y => isT y x) && onceR (p ++ [x]) r
def onceM (d : Df) : Bool := onceR [] (d.2.1.map (·.1)) && onceR [] (d.2.2.2.map (·.1))
def partsM (n : Int) (ps : List By) : Bool := match ps with
 | [a] => inB a.1 0 (n - 1)
 | [a, b] => inB a.1 0 (n - 1) && (inB b.1 0 (n - 1) && !decide (a.1 = b.1))
 | _ => false
theorem partsM_in {n : Int} {ps : List By} (h : partsM n ps = true) : ∀ p ∈ ps, 0 ≤ p.1 ∧ p.1 < n := by
 unfold partsM at h
 match ps, h with
 | [a], h => intro p hp; rw [List.mem_singleton] at hp; rw [hp]; have := inB_iff.1 h; omega
 | [a, b], h =>
  simp only [Bool.and_eq_true] at h
  have h1 := inB_iff.1 h.1
  have h2 := inB_iff.1 h.2.1
  intro p hp
  simp only [List.mem_cons, List.not_mem_nil, or_false] at hp
  rcases hp with e | e <;> rw [e] <;> omega
theorem partsM_len {n : Int} {ps : List By} (h : partsM n ps = true) : 1 ≤ ps.length ∧ ps.length ≤ 2 := by
 unfold partsM at h
 match ps, h with
 | [a], _ => exact ⟨by simp, by simp⟩
 | [a, b], _ => exact ⟨by simp, by simp⟩
theorem partsM_not {n : Int} {ps : List By} (h : ¬ inB ps.length 1 2 = true) : partsM n ps = false := by
 cases c : partsM n ps with
 | false => rfl
 | true => have := partsM_len c; exact absurd (inB_iff.2 ⟨by omega, by omega⟩) h
def allPartsM (d : Df) : Bool := d.2.2.2.all (fun x => partsM d.2.1.length x.2.2) && partsM d.2.1.length d.2.2.1
def colAt (cs : List Col) (i : Int) : Col := List.getD cs (Int.toNat i) (ByteArray.empty, (0 : Int), false)
def ixAt (xs : List Ix) (i : Int) : Ix := List.getD xs (Int.toNat i) (ByteArray.empty, false, ([] : List (Int × Bool)))
def nullAt (cs : List Col) (p : By) : Bool := (colAt cs p.1).2.2
def checkM (d : Df) : Int :=
 bif namesM d then (bif typesM d.2.1 then (bif onceM d then (bif decide ((d.2.2.2.length : Int) > 2) then 6 else bif allPartsM d then (bif d.2.2.1.any (nullAt d.2.1) then 4 else 0) else 5) else 3) else 2) else 1
def goodM (d : Df) : Prop := namesM d = true ∧ typesM d.2.1 = true ∧ onceM d = true ∧ d.2.2.2.length ≤ 2 ∧ allPartsM d = true ∧ d.2.2.1.any (nullAt d.2.1) = false
theorem checkM_iff {d : Df} : checkM d = 0 ↔ goodM d := by
 unfold checkM goodM
 cases namesM d <;> cases typesM d.2.1 <;> cases onceM d <;> cases allPartsM d <;> cases d.2.2.1.any (nullAt d.2.1) <;> by_cases h : (d.2.2.2.length : Int) > 2 <;> simp [h] <;> omega
theorem at_mem {β : Type} {l : List β} {i : Int} {z : β} (h0 : 0 ≤ i) (h1 : i < l.length) : List.getD l (Int.toNat i) z ∈ l := by
 have e : i = ((i.toNat : Nat) : Int) := by omega
 rw [e, getD_in (show i.toNat < l.length by omega)]
 exact List.getElem_mem _
def firstR (l : List Df) : Nat → List Df → Int
 | _, [] => -1
 | i, d :: r => bif decide (checkM d = 0) && decide (i ≤ 2) then (bif (l.take i).any (fun e => isT e.1 d.1) then (i : Int) else firstR l (i + 1) r) else (i : Int)
def firstM (l : List Df) : Int := firstR l 0 l
def mkPart (cs : List Col) (p : By) : Pt := (p.1, (colAt cs p.1).2.1, (colAt cs p.1).2.2, p.2)
def rowR : Nat → List Col → List Pt
 | _, [] => []
 | i, c :: r => ((i : Int), c.2.1, c.2.2, false) :: rowR (i + 1) r
def planR (d : Df) : List Pt := bif decide (checkM d = 0) then rowR 0 d.2.1 else []
def planP (d : Df) : List Pt := bif decide (checkM d = 0) then d.2.2.1.map (mkPart d.2.1) else []
def planI (d : Df) (i : Int) : List Pt :=
 bif decide (checkM d = 0) then (bif inB i 0 ((d.2.2.2.length : Int) - 1) then (ixAt d.2.2.2 i).2.2.map (mkPart d.2.1) ++ d.2.2.1.map (mkPart d.2.1) else []) else []
theorem rowR_len : ∀ (r : List Col) (i : Nat), (rowR i r).length = r.length
 | [], _ => rfl
 | c :: r, i => by rw [rowR, List.length_cons, rowR_len r (i + 1), List.length_cons]
theorem allParts_of {d : Df} (h : allPartsM d = true) : partsM d.2.1.length d.2.2.1 = true ∧ ∀ x ∈ d.2.2.2, partsM d.2.1.length x.2.2 = true := by
 unfold allPartsM at h
 rw [Bool.and_eq_true] at h
 exact ⟨h.2, fun x hx => List.all_eq_true.1 h.1 x hx⟩
theorem goodM.parts {d : Df} (h : goodM d) : partsM d.2.1.length d.2.2.1 = true ∧ ∀ x ∈ d.2.2.2, partsM d.2.1.length x.2.2 = true := allParts_of h.2.2.2.2.1
theorem goodM.types {d : Df} (h : goodM d) : (∀ c ∈ d.2.1, inB c.2.1 1 4 = true) ∧ 1 ≤ d.2.1.length ∧ d.2.1.length ≤ 6 := by
 have := h.2.1
 unfold typesM at this
 rw [Bool.and_eq_true] at this
 have q := inB_iff.1 this.2
 exact ⟨fun c hc => List.all_eq_true.1 this.1 c hc, by omega, by omega⟩
def tyL : List ByteArray := [(⟨#[]⟩ : ByteArray), (⟨#[105, 110, 116]⟩ : ByteArray), (⟨#[110, 117, 109]⟩ : ByteArray), (⟨#[116, 101, 120, 116]⟩ : ByteArray), (⟨#[98, 111, 111, 108]⟩ : ByteArray)]
def tyAt (t : Int) : ByteArray := List.getD tyL (Int.toNat t) ByteArray.empty
def partOne (cs : List Col) (p : By) : ByteArray := bif p.2 then (colAt cs p.1).1 ++ (⟨#[32, 100, 101, 115, 99]⟩ : ByteArray) else (colAt cs p.1).1
def partTx (cs : List Col) (ps : List By) : ByteArray := match ps with
 | [p] => partOne cs p ++ (⟨#[59, 32]⟩ : ByteArray)
 | [p, q] => ((partOne cs p ++ (⟨#[44, 32]⟩ : ByteArray)) ++ partOne cs q) ++ (⟨#[59, 32]⟩ : ByteArray)
 | _ => (⟨#[]⟩ : ByteArray)
def namesS (cs : List Col) : Prop := ∀ c ∈ cs, c.1.size ≤ 8
def colS (s : ByteArray) (c : Col) : ByteArray := (bif c.2.2 then (s ++ ((c.1 ++ (⟨#[32]⟩ : ByteArray)) ++ tyAt c.2.1)) ++ (⟨#[32, 110, 117, 108, 108]⟩ : ByteArray) else s ++ ((c.1 ++ (⟨#[32]⟩ : ByteArray)) ++ tyAt c.2.1)) ++ (⟨#[59, 32]⟩ : ByteArray)
def idxS (cs : List Col) (s : ByteArray) (x : Ix) : ByteArray := s ++ ((((bif x.2.1 then (⟨#[117, 110, 105, 113, 117, 101, 32]⟩ : ByteArray) else (⟨#[105, 110, 100, 101, 120, 32]⟩ : ByteArray)) ++ x.1) ++ (⟨#[32]⟩ : ByteArray)) ++ partTx cs x.2.2)
def headTx (d : Df) : ByteArray := ((⟨#[116, 97, 98, 108, 101, 32]⟩ : ByteArray) ++ d.1) ++ (⟨#[32, 123, 32]⟩ : ByteArray)
def restTx (d : Df) (s : ByteArray) : ByteArray :=
 d.2.2.2.foldl (idxS d.2.1) (s ++ ((⟨#[112, 114, 105, 109, 97, 114, 121, 32]⟩ : ByteArray) ++ partTx d.2.1 d.2.2.1)) ++ (⟨#[125]⟩ : ByteArray)
def defTx (d : Df) : ByteArray := bif decide (checkM d = 0) then restTx d (d.2.1.foldl colS (headTx d)) else (⟨#[]⟩ : ByteArray)
theorem nameM_end (n : Int) : ∀ (l : List Int) (i : Nat), nameM n i l = true → inB n 1 8 = true
 | [], _, h => h
 | x :: r, i, h => by
  rw [nameM] at h
  split at h
  ·exact nameM_end n r (i + 1) h
  ·split at h
   ·cases h
   ·split at h
    ·exact nameM_end n r (i + 1) h
    ·cases h
theorem freeM_size {s : ByteArray} (h : freeM s = true) : 1 ≤ s.size ∧ s.size ≤ 8 := by
 unfold freeM at h
 rw [Bool.and_eq_true] at h
 have := inB_iff.1 (nameM_end _ _ _ h.1)
 omega
theorem goodM.names {d : Df} (h : goodM d) : freeM d.1 = true ∧ (∀ c ∈ d.2.1, freeM c.1 = true) ∧ ∀ x ∈ d.2.2.2, freeM x.1 = true := by
 have := h.1
 unfold namesM at this
 rw [Bool.and_eq_true, Bool.and_eq_true] at this
 exact ⟨this.2.2, fun c hc => List.all_eq_true.1 this.1 c hc, fun x hx => List.all_eq_true.1 this.2.1 x hx⟩
def defsS (s : ByteArray) (d : Df) : ByteArray := s ++ (defTx d ++ (⟨#[10]⟩ : ByteArray))
def defsTx (l : List Df) : ByteArray := l.foldl defsS (⟨#[]⟩ : ByteArray)
def clampF (n : Int) : Int := if n > 2147483647 then 2147483647 else if n < -2147483648 then -2147483648 else n
def fixM (n : Int) : List Int := digM (clampF n + 2147483648) 4
def escM : List Int → List Int
 | [] => [0, 1]
 | c :: r => if c = 0 then 0 :: 255 :: escM r else c :: escM r
def valB (v : Vl) : List Int := if v.1 = 1 then fixM v.2.1 else if v.1 = 2 then varM v.2.1 else if v.1 = 3 then escM (bytesOf v.2.2) else if v.1 = 4 then [v.2.1 % 256] else []
def partB (p : Pt) (v : Vl) : List Int := flipIf p.2.2.2 ((bif p.2.2.1 then [if v.1 = 0 then 0 else 1] else []) ++ valB v)
def fitP (p : Pt) (v : Vl) : Bool := fitsM p.2.1 p.2.2.1 v.1 v.2.1 (bytesOf v.2.2)
def rawB (p : Pt) (v : Vl) : List Int := (bif p.2.2.1 then [if v.1 = 0 then 0 else 1] else []) ++ valB v
theorem fitP_of {p : Pt} {v : Vl} (h : fitP p v = true) : valOkM v.1 v.2.1 (bytesOf v.2.2) = true ∧ ((v.1 = p.2.1 ∧ (v.1 = 0 → p.2.2.1 = true)) ∨ (v.1 = 0 ∧ p.2.2.1 = true)) := by
 unfold fitP fitsM at h
 split at h
 ·rename_i h1
  refine ⟨h1, ?_⟩
  split at h
  ·rename_i h2
   exact Or.inl ⟨h2, fun c => by rw [if_pos c] at h; exact h⟩
  ·split at h
   ·rename_i h3; exact Or.inr ⟨h3, h⟩
   ·cases h
 ·cases h
def keyB : List Pt → List Vl → List Int
 | p :: l, v :: r => partB p v ++ keyB l r
 | _, _ => []
theorem laws_szByS.sp {d : Nat} (hd : 1 ≤ d) {l : List By} {left : Int} (h0 : 0 ≤ left) (h1 : left ≤ 1048576) (hl : l.length ≤ 140737488351232) :
  Tells (laws_szByS.f d (l, left)) fun r => r ≤ left ∧ (0 ≤ r → (l.length : Int) ≤ left - r) := by
 obtain ⟨d, rfl, _⟩ := dep hd
 rw [laws_szByS.t_eq]
 dsimp only [laws_szByS.m]
 rw [wrap_id (by omega) (by omega)]
 exact tif (fun h => tl ⟨by omega, by omega⟩) fun h => tl ⟨by omega, by omega⟩
theorem laws_szColS.sp {d : Nat} (hd : 2 ≤ d) {l : List Col} {left : Int} (h0 : 0 ≤ left) (h1 : left ≤ 1048576) (hl : l.length ≤ 140737488351232) (hx : ∀ x ∈ l, x.1.size ≤ 140737488351232) :
  Tells (laws_szColS.f d (l, left)) fun r => r ≤ left ∧ (0 ≤ r → (l.length : Int) + wSum (fun x => x.1.size) l ≤ left - r) := by
 obtain ⟨d, rfl, _⟩ := dep hd
 rw [laws_szColS.t_eq]
 dsimp only [laws_szColS.m]
 rw [wrap_id (by omega) (by omega)]
 refine tif (fun h => tl ⟨by omega, by omega⟩) fun h => ?_
 refine (loopSz (w := fun x : Col => x.1.size) (laws_szColS.S0 d) (by omega) hl (fun L st => ?_) fun L st i Q hi h0 h1 hq ih => ?_).mono fun r hr => ⟨by omega, fun h => by have := hr.2 h; omega⟩
 ·dsimp only [laws_szColS.S0, laws_szColS.s0]
  exact tn (by omega) (tl rfl)
 ·dsimp only [laws_szColS.S0, laws_szColS.s0]
  refine tp (by omega) (ti hi ?_)
  rw [getD_in hi, wrap_succ (by omega)]
  obtain ⟨d, rfl, _⟩ := dep (show 0 + 1 ≤ d by omega)
  rw [laws_szCol.t_eq]
  dsimp only [laws_szCol.m]
  have := hx _ (List.getElem_mem hi)
  rw [wrap_id (by omega) (by omega)]
  refine tb (P := fun a => a ≤ st ∧ (0 ≤ a → (l[i].1.size : Int) ≤ st - a)) (tif (fun h => tl ⟨by omega, by omega⟩) fun h => tl ⟨by omega, by omega⟩) fun a ha => tif (fun _ => tl hq) fun h => ih a (by omega) (ha.2 (by omega))
theorem laws_szIndexS.sp {d : Nat} (hd : 3 ≤ d) {l : List Ix} {left : Int} (h0 : 0 ≤ left) (h1 : left ≤ 1048576) (hl : l.length ≤ 140737488351232) (hx : ∀ x ∈ l, x.1.size ≤ 140737488351232 ∧ x.2.2.length ≤ 140737488351232) :
  Tells (laws_szIndexS.f d (l, left)) fun r => r ≤ left ∧ (0 ≤ r → (l.length : Int) + wSum (fun x => x.1.size + x.2.2.length) l ≤ left - r) := by
 obtain ⟨d, rfl, _⟩ := dep hd
 rw [laws_szIndexS.t_eq]
 dsimp only [laws_szIndexS.m]
 rw [wrap_id (by omega) (by omega)]
 refine tif (fun h => tl ⟨by omega, by omega⟩) fun h => ?_
 refine (loopSz (w := fun x : Ix => x.1.size + x.2.2.length) (laws_szIndexS.S0 d) (by omega) hl (fun L st => ?_) fun L st i Q hi h0 h1 hq ih => ?_).mono fun r hr => ⟨by omega, fun h => by have := hr.2 h; omega⟩
 ·dsimp only [laws_szIndexS.S0, laws_szIndexS.s0]
  exact tn (by omega) (tl rfl)
 ·dsimp only [laws_szIndexS.S0, laws_szIndexS.s0]
  refine tp (by omega) (ti hi ?_)
  rw [getD_in hi, wrap_succ (by omega)]
  obtain ⟨d, rfl, _⟩ := dep (show 1 + 1 ≤ d by omega)
  rw [laws_szIndex.t_eq]
  dsimp only [laws_szIndex.m]
  have hxx := hx _ (List.getElem_mem hi)
  rw [wrap_id (by omega) (by omega)]
  refine tb (P := fun a => a ≤ st ∧ (0 ≤ a → ((l[i].1.size + l[i].2.2.length : Nat) : Int) ≤ st - a)) (tif (fun h => tl ⟨by omega, by omega⟩) fun h => ?_) fun a ha => tif (fun _ => tl hq) fun h => ih a (by omega) (ha.2 (by omega))
  exact tb (laws_szByS.sp (by omega) (by omega) (by omega) hxx.2) fun a ha => tif (fun _ => tl ⟨by omega, by omega⟩) fun h => tl ⟨by omega, fun h2 => by have := ha.2 h2; omega⟩
def dfFit (k : Nat) (x : Df) : Prop := x.1.size ≤ k ∧ (x.2.1.length ≤ k ∧ ∀ y ∈ x.2.1, y.1.size ≤ k) ∧ x.2.2.1.length ≤ k ∧ (x.2.2.2.length ≤ k ∧ ∀ y ∈ x.2.2.2, y.1.size ≤ k ∧ y.2.2.length ≤ k)
def dfW (x : Df) : Nat := x.1.size + (x.2.1.length + wSum (fun y : Col => y.1.size) x.2.1) + x.2.2.1.length + (x.2.2.2.length + wSum (fun y : Ix => y.1.size + y.2.2.length) x.2.2.2)
theorem dfFit.mono {k m : Nat} {x : Df} (h : dfFit k x) (hm : k ≤ m) : dfFit m x :=
 ⟨by have := h.1; omega, ⟨by have := h.2.1.1; omega, fun y hy => by have := h.2.1.2 y hy; omega⟩, by have := h.2.2.1; omega, by have := h.2.2.2.1; omega, fun y hy => by have := h.2.2.2.2 y hy; omega⟩
theorem laws_szDef.sp {d : Nat} (hd : 4 ≤ d) {x : Df} {left : Int} (h0 : 0 ≤ left) (h1 : left ≤ 1048576) (hf : dfFit 140737488351232 x) : Tells (laws_szDef.f d (x.1, x.2.1, x.2.2.1, x.2.2.2, left)) fun r => r ≤ left ∧ (0 ≤ r → dfFit 1048576 x ∧ (dfW x : Int) ≤ left - r) := by
 obtain ⟨d, rfl, _⟩ := dep hd
 rw [laws_szDef.t_eq]
 dsimp only [laws_szDef.m]
 have s0 := hf.1
 rw [wrap_id (by omega) (by omega)]
 refine tif (fun _ => tl ⟨by omega, fun h => by omega⟩) fun c => tb (laws_szColS.sp (by omega) (by omega) (by omega) hf.2.1.1 hf.2.1.2) fun a ha => tif (fun _ => tl ⟨by omega, fun h => by omega⟩) fun c1 => tb (laws_szByS.sp (by omega) (by omega) (by omega) hf.2.2.1) fun b hb => tif (fun _ => tl ⟨by omega, fun h => by omega⟩) fun c2 =>
  tb (laws_szIndexS.sp (by omega) (by omega) (by omega) hf.2.2.2.1 hf.2.2.2.2) fun e he => tif (fun _ => tl ⟨by omega, fun h => by omega⟩) fun c3 => tl ⟨by omega, fun _ => ?_⟩
 have h1 := ha.2 (by omega)
 have h2 := hb.2 (by omega)
 have h3 := he.2 (by omega)
 refine ⟨⟨by omega, ⟨by omega, fun y hy => ?_⟩, by omega, by omega, fun y hy => ?_⟩, by unfold dfW; omega⟩
 ·have h : y.1.size ≤ wSum (fun y : Col => y.1.size) x.2.1 := mem_wSum (w := fun y : Col => y.1.size) hy
  omega
 ·have h : y.1.size + y.2.2.length ≤ wSum (fun y : Ix => y.1.size + y.2.2.length) x.2.2.2 := mem_wSum (w := fun y : Ix => y.1.size + y.2.2.length) hy
  omega
theorem laws_toColS.sp {d : Nat} (hd : 2 ≤ d) {l : List Col} (hl : l.length ≤ 1048576) : laws_toColS.f d l = some l := by
 obtain ⟨d, rfl, _⟩ := dep hd
 rw [laws_toColS.t_eq]
 dsimp only [laws_toColS.m]
 refine Tells.eq (tt (by simp; omega) ?_)
 have := loopFill (laws_toColS.S0 d) l id (List.replicate (Int.toNat (l.length : Int)) (ByteArray.empty, (0 : Int), false)) (by simp) (by omega) (fun L st h => ?_) fun L st i Q hi h ih => ?_
 ·simpa using this
 ·dsimp only [laws_toColS.S0, laws_toColS.s0]
  exact tn (by omega) (tl rfl)
 ·dsimp only [laws_toColS.S0, laws_toColS.s0]
  refine tp (by omega) (ti hi ?_)
  rw [getD_in hi, wrap_succ (by omega)]
  obtain ⟨d, rfl, _⟩ := dep (show 0 + 1 ≤ d by omega)
  rw [laws_toCol.t_eq]
  refine tc rfl (ti (by omega) ?_)
  simpa [show i < st.length by omega] using ih
theorem laws_toByS.sp {d : Nat} (hd : 2 ≤ d) {l : List By} (hl : l.length ≤ 1048576) : laws_toByS.f d l = some l := by
 obtain ⟨d, rfl, _⟩ := dep hd
 rw [laws_toByS.t_eq]
 dsimp only [laws_toByS.m]
 refine Tells.eq (tt (by simp; omega) ?_)
 have := loopFill (laws_toByS.S0 d) l id (List.replicate (Int.toNat (l.length : Int)) ((0 : Int), false)) (by simp) (by omega) (fun L st h => ?_) fun L st i Q hi h ih => ?_
 ·simpa using this
 ·dsimp only [laws_toByS.S0, laws_toByS.s0]
  exact tn (by omega) (tl rfl)
 ·dsimp only [laws_toByS.S0, laws_toByS.s0]
  refine tp (by omega) (ti hi ?_)
  rw [getD_in hi, wrap_succ (by omega)]
  obtain ⟨d, rfl, _⟩ := dep (show 0 + 1 ≤ d by omega)
  rw [laws_toBy.t_eq]
  refine tc rfl (ti (by omega) ?_)
  simpa [show i < st.length by omega] using ih
theorem laws_toIndexS.sp {d : Nat} (hd : 4 ≤ d) {l : List Ix} (hl : l.length ≤ 1048576) (hx : ∀ x ∈ l, x.2.2.length ≤ 1048576) : laws_toIndexS.f d l = some l := by
 obtain ⟨d, rfl, _⟩ := dep hd
 rw [laws_toIndexS.t_eq]
 dsimp only [laws_toIndexS.m]
 refine Tells.eq (tt (by simp; omega) ?_)
 have := loopFill (laws_toIndexS.S0 d) l id (List.replicate (Int.toNat (l.length : Int)) (ByteArray.empty, false, ([] : List (Int × Bool)))) (by simp) (by omega) (fun L st h => ?_) fun L st i Q hi h ih => ?_
 ·simpa using this
 ·dsimp only [laws_toIndexS.S0, laws_toIndexS.s0]
  exact tn (by omega) (tl rfl)
 ·dsimp only [laws_toIndexS.S0, laws_toIndexS.s0]
  refine tp (by omega) (ti hi ?_)
  rw [getD_in hi, wrap_succ (by omega)]
  obtain ⟨d, rfl, _⟩ := dep (show 2 + 1 ≤ d by omega)
  have e : laws_toIndex.f (d + 1) (l[i].1, l[i].2.1, l[i].2.2) = some l[i] := by
   rw [laws_toIndex.t_eq]
   dsimp only [laws_toIndex.m]
   rw [laws_toByS.sp (by omega) (hx _ (List.getElem_mem hi))]; rfl
  refine tc e (ti (by omega) ?_)
  simpa [show i < st.length by omega] using ih
theorem laws_toDef.sp {d : Nat} (hd : 5 ≤ d) {x : Df} (h : dfFit 1048576 x) : laws_toDef.f d (x.1, x.2.1, x.2.2.1, x.2.2.2) = some x := by
 obtain ⟨d, rfl, _⟩ := dep hd
 rw [laws_toDef.t_eq]
 dsimp only [laws_toDef.m]
 exact Tells.eq (tc (laws_toColS.sp (by omega) h.2.1.1) (tc (laws_toByS.sp (by omega) h.2.2.1) (tc (laws_toIndexS.sp (by omega) h.2.2.2.1 fun y hy => (h.2.2.2.2 y hy).2) (tl rfl))))
theorem laws_eqByS.self {d : Nat} (hd : 2 ≤ d) {l : List By} (hl : l.length ≤ 140737488351232) : laws_eqByS.f d (l, l) = some true := by
 obtain ⟨d, rfl, _⟩ := dep hd
 rw [laws_eqByS.t_eq]
 refine Tells.eq ?_
 dsimp only [laws_eqByS.m]
 refine tf (by simp) ?_
 refine loopE (laws_eqByS.S0 d) l.length (fun i => (l, l, i)) (fun _ r => r = true) (by omega) (fun L => ?_) fun L i hi ih => ?_
 ·dsimp only [laws_eqByS.S0, laws_eqByS.s0]
  exact tn (by omega) (tl rfl)
 ·dsimp only [laws_eqByS.S0, laws_eqByS.s0]
  refine tp (by omega) (ti hi (ti hi ?_))
  rw [wrap_succ (by omega)]
  obtain ⟨d, rfl, _⟩ := dep (show 0 + 1 ≤ d by omega)
  rw [laws_eqBy.t_eq]
  exact tc (a := true) (by simp [laws_eqBy.m]) (tf rfl ih)
theorem laws_eqColS.self {d : Nat} (hd : 2 ≤ d) {l : List Col} (hl : l.length ≤ 140737488351232) : laws_eqColS.f d (l, l) = some true := by
 obtain ⟨d, rfl, _⟩ := dep hd
 rw [laws_eqColS.t_eq]
 refine Tells.eq ?_
 dsimp only [laws_eqColS.m]
 refine tf (by simp) ?_
 refine loopE (laws_eqColS.S0 d) l.length (fun i => (l, l, i)) (fun _ r => r = true) (by omega) (fun L => ?_) fun L i hi ih => ?_
 ·dsimp only [laws_eqColS.S0, laws_eqColS.s0]
  exact tn (by omega) (tl rfl)
 ·dsimp only [laws_eqColS.S0, laws_eqColS.s0]
  refine tp (by omega) (ti hi (ti hi ?_))
  rw [wrap_succ (by omega)]
  obtain ⟨d, rfl, _⟩ := dep (show 0 + 1 ≤ d by omega)
  rw [laws_eqCol.t_eq]
  exact tc (a := true) (by simp [laws_eqCol.m]) (tf rfl ih)
theorem laws_eqIndexS.self {d : Nat} (hd : 4 ≤ d) {l : List Ix} (hl : l.length ≤ 140737488351232) (hx : ∀ x ∈ l, x.2.2.length ≤ 140737488351232) : laws_eqIndexS.f d (l, l) = some true := by
 obtain ⟨d, rfl, _⟩ := dep hd
 rw [laws_eqIndexS.t_eq]
 refine Tells.eq ?_
 dsimp only [laws_eqIndexS.m]
 refine tf (by simp) ?_
 refine loopE (laws_eqIndexS.S0 d) l.length (fun i => (l, l, i)) (fun _ r => r = true) (by omega) (fun L => ?_) fun L i hi ih => ?_
 ·dsimp only [laws_eqIndexS.S0, laws_eqIndexS.s0]
  exact tn (by omega) (tl rfl)
 ·dsimp only [laws_eqIndexS.S0, laws_eqIndexS.s0]
  refine tp (by omega) (ti hi (ti hi ?_))
  rw [getD_in hi, wrap_succ (by omega)]
  obtain ⟨d, rfl, _⟩ := dep (show 2 + 1 ≤ d by omega)
  rw [laws_eqIndex.t_eq]
  dsimp only [laws_eqIndex.m]
  refine tb (P := fun a => a = true) (tf (by simp) (tf (by simp) (tc (laws_eqByS.self (by omega) (hx _ (List.getElem_mem hi))) (tf rfl (tl rfl))))) fun a ha => ?_
  subst ha
  exact tf rfl ih
theorem laws_eqDef.self {d : Nat} (hd : 5 ≤ d) {x : Df} (h : dfFit 140737488351232 x) : laws_eqDef.f d (x.1, x.2.1, x.2.2.1, x.2.2.2, x.1, x.2.1, x.2.2.1, x.2.2.2) = some true := by
 obtain ⟨d, rfl, _⟩ := dep hd
 rw [laws_eqDef.t_eq]
 dsimp only [laws_eqDef.m]
 exact Tells.eq (tf (by simp) (tc (laws_eqColS.self (by omega) h.2.1.1) (tf rfl (tc (laws_eqByS.self (by omega) h.2.2.1) (tf rfl (tc (laws_eqIndexS.self (by omega) h.2.2.2.1 fun y hy => (h.2.2.2.2 y hy).2) (tf rfl (tl rfl))))))))
theorem get_byte {s : ByteArray} {i : Nat} (h : i < (bytesOf s).length) : ((ByteArray.get! s (Int.toNat (i : Int))).toNat : Int) = (bytesOf s)[i] := by
 have h2 : i < s.data.size := by simpa [strNums] using h
 rw [Int.toNat_natCast]
 simp [strNums, ByteArray.get!, getElem!_pos s.data i h2]
theorem byte_in {s : ByteArray} {i : Nat} (h : i < (bytesOf s).length) : 0 ≤ (bytesOf s)[i] ∧ (bytesOf s)[i] ≤ 255 := bytesOf_bytes s _ (List.getElem_mem h)
theorem impl_isLetter.sp {d : Nat} (hd : 1 ≤ d) (a : Int) : impl_isLetter.f d a = some (inB a 97 122) := by
 obtain ⟨d, rfl, _⟩ := dep hd
 rw [impl_isLetter.t_eq]
 exact in_def a 97 122
theorem impl_isDigit.sp {d : Nat} (hd : 1 ≤ d) (a : Int) : impl_isDigit.f d a = some (inB a 48 57) := by
 obtain ⟨d, rfl, _⟩ := dep hd
 rw [impl_isDigit.t_eq]
 exact in_def a 48 57
theorem spec_l8Small.sp {d : Nat} (hd : 2 ≤ d) {a : Int} (h : 0 ≤ a ∧ a ≤ 255) : spec_l8Small.f d a = some (inB a 97 122) := by
 obtain ⟨d, rfl, _⟩ := dep hd
 rw [spec_l8Small.t_eq]
 dsimp only [spec_l8Small.m]
 rw [wrap_id (by omega) (by omega), spec_l1In.sp (by omega)]; rfl
theorem spec_l2Digit.sp {d : Nat} (hd : 2 ≤ d) {a : Int} (h : 0 ≤ a ∧ a ≤ 255) : spec_l2Digit.f d a = some (inB a 48 57) := by
 obtain ⟨d, rfl, _⟩ := dep hd
 rw [spec_l2Digit.t_eq]
 dsimp only [spec_l2Digit.m]
 rw [wrap_id (by omega) (by omega), spec_l1In.sp (by omega)]; rfl
theorem impl_nameOk.sp {d : Nat} (hd : 2 ≤ d) {s : ByteArray} (hs : s.size ≤ 140737488351232) : impl_nameOk.f d s = some (nameM s.size 0 (bytesOf s)) := by
 obtain ⟨d, rfl, _⟩ := dep hd
 rw [impl_nameOk.t_eq]
 dsimp only [impl_nameOk.m]
 have hl := bytesOf_length s
 refine Tells.eq (loopL (impl_nameOk.S0 d) (bytesOf s) (fun i => (s, i)) (fun i r => nameM s.size i r) (by omega) (fun L => ?_) fun L i hi ih => ?_)
 ·dsimp only [impl_nameOk.S0, impl_nameOk.s0]
  exact tn (by omega) (tc (impl_in.sp (by omega) _ _ _) (tl rfl))
 ·dsimp only [impl_nameOk.S0, impl_nameOk.s0]
  refine tp (by omega) (ti (by omega) ?_)
  rw [get_byte hi, wrap_succ (by omega)]
  refine tc (impl_isLetter.sp (by omega) _) ?_
  rw [nameM]
  by_cases c1 : inB (bytesOf s)[i] 97 122 = true
  ·rw [if_pos c1]; exact tf (by rw [c1]; rfl) ih
  ·rw [if_neg c1]
   refine tt (by simp [c1]) ?_
   by_cases c2 : i = 0
   ·rw [if_pos c2]; exact tt (by simp [c2]) (tl rfl)
   ·rw [if_neg c2]
    refine tf (by simp; omega) (ti (by omega) (tc (impl_isDigit.sp (by omega) _) ?_))
    by_cases c3 : inB (bytesOf s)[i] 48 57 = true
    ·rw [if_pos c3]; exact tf (by rw [c3]; rfl) ih
    ·rw [if_neg c3]; exact tt (by simp [c3]) (tl rfl)
theorem spec_l8Name.sp {d : Nat} (hd : 3 ≤ d) {s : ByteArray} (hs : s.size ≤ 140737488351232) : spec_l8Name.f d s = some (nameM s.size 0 (bytesOf s)) := by
 obtain ⟨d, rfl, _⟩ := dep hd
 rw [spec_l8Name.t_eq]
 dsimp only [spec_l8Name.m]
 have hl := bytesOf_length s
 refine Tells.eq (loopL (spec_l8Name.S0 d) (bytesOf s) (fun i => (s, i)) (fun i r => nameM s.size i r) (by omega) (fun L => ?_) fun L i hi ih => ?_)
 ·dsimp only [spec_l8Name.S0, spec_l8Name.s0]
  exact tn (by omega) (tc (spec_l1In.sp (by omega) _ _ _) (tl rfl))
 ·dsimp only [spec_l8Name.S0, spec_l8Name.s0]
  refine tp (by omega) (ti (by omega) ?_)
  have hb := byte_in hi
  rw [get_byte hi, wrap_succ (by omega)]
  refine tc (spec_l8Small.sp (by omega) hb) ?_
  rw [nameM]
  by_cases c1 : inB (bytesOf s)[i] 97 122 = true
  ·rw [if_pos c1]; exact tf (by rw [c1]; rfl) ih
  ·rw [if_neg c1]
   refine tt (by simp [c1]) ?_
   by_cases c2 : i = 0
   ·rw [if_pos c2]; exact tt (by simp [c2]) (tl rfl)
   ·rw [if_neg c2]
    refine tf (by simp; omega) (ti (by omega) (tc (spec_l2Digit.sp (by omega) hb) ?_))
    by_cases c3 : inB (bytesOf s)[i] 48 57 = true
    ·rw [if_pos c3]; exact tf (by rw [c3]; rfl) ih
    ·rw [if_neg c3]; exact tt (by simp [c3]) (tl rfl)
theorem spec_l9Has.sp {d : Nat} (hd : 1 ≤ d) {l : List ByteArray} (hl : l.length ≤ 140737488351232) (s : ByteArray) : spec_l9Has.f d (l, s) = some (l.any fun w => isT w s) := by
 obtain ⟨d, rfl, _⟩ := dep hd
 rw [spec_l9Has.t_eq]
 dsimp only [spec_l9Has.m]
 have := loopStop (spec_l9Has.S0 d) l (fun i => (l, s, i)) (fun w => isT w s) true false (by omega) (fun L => ?_) fun L i hi e ih => ?_
 ·refine Tells.eq (this.mono fun r hr => ?_)
  rw [hr]; cases (l.any fun w => isT w s) <;> rfl
 ·dsimp only [spec_l9Has.S0, spec_l9Has.s0]
  exact tn (by omega) (tl rfl)
 ·dsimp only [spec_l9Has.S0, spec_l9Has.s0]
  refine tp (by omega) (ti hi ?_)
  rw [getD_in hi, wrap_succ (by omega)]
  exact tbif (fun c => tl (by rw [show isT l[i] s = true from c]; rfl)) fun c => by rw [show isT l[i] s = false from c]; exact ih
theorem spec_l9Word.sp {d : Nat} (hd : 4 ≤ d) {s : ByteArray} (hs : s.size ≤ 140737488351232) : spec_l9Word.f d s = some (freeM s) := by
 obtain ⟨d, rfl, _⟩ := dep hd
 rw [spec_l9Word.t_eq]
 dsimp only [spec_l9Word.m]
 refine Tells.eq (tc (spec_l8Name.sp (by omega) hs) (tbif (fun c => tc (spec_l9Has.sp (l := wordsL) (by omega) (by decide) s) (tl ?_)) fun c => tl ?_))
 ·unfold freeM; rw [c]; rfl
 ·unfold freeM; rw [c]; rfl
theorem loopAnd {A β : Type} (s : (A → Option Bool) → A → Option Bool) (l : List β) (mk : Int → A) (p : β → Bool) (R0 : Bool) (hl : l.length ≤ 4611686018427387904)
  (base : ∀ L, Tells (s L (mk (l.length : Int))) (· = R0))
  (step : ∀ L i (hi : i < l.length) e, Tells (L (mk ((i + 1 : Nat) : Int))) (· = e) → Tells (s L (mk (i : Int))) (· = (p l[i] && e))) :
  Tells (iter s rnds (mk (0 : Int))) (· = (l.all p && R0)) := by
 refine loopL s l mk (fun _ r => r.all p && R0) hl base fun L i hi ih => ?_
 refine (step L i hi _ ih).mono fun r hr => ?_
 rw [hr, List.all_cons, Bool.and_assoc]
theorem spec_l9Names.sp {d : Nat} (hd : 5 ≤ d) {x : Df} (h : dfFit 140737488351232 x) : spec_l9Names.f d (x.1, x.2.1, x.2.2.1, x.2.2.2) = some (namesM x) := by
 obtain ⟨d, rfl, _⟩ := dep hd
 rw [spec_l9Names.t_eq]
 dsimp only [spec_l9Names.m]
 obtain ⟨h0, ⟨h1, h2⟩, h3, h4, h5⟩ := h
 refine Tells.eq (loopAnd (spec_l9Names.S0 d) x.2.1 (fun i => (i, x.1, x.2.1, x.2.2.1, x.2.2.2)) (fun c => freeM c.1) _ (by omega) (fun L => ?_) fun L i hi e ih => ?_)
 ·dsimp only [spec_l9Names.S0, spec_l9Names.s0]
  refine tn (by omega) ?_
  refine loopAnd (spec_l9Names.S2 d) x.2.2.2 (fun i => (i, x.1, x.2.1, x.2.2.1, x.2.2.2)) (fun c => freeM c.1) _ (by omega) (fun L => ?_) fun L i hi e ih => ?_
  ·dsimp only [spec_l9Names.S2, spec_l9Names.s2]
   exact tn (by omega) (tc (spec_l9Word.sp (by omega) h0) (tl rfl))
  ·dsimp only [spec_l9Names.S2, spec_l9Names.s2]
   refine tp (by omega) (ti hi ?_)
   rw [getD_in hi, wrap_succ (by omega)]
   refine tc (spec_l9Word.sp (by omega) (h5 _ (List.getElem_mem hi)).1) ?_
   cases freeM x.2.2.2[i].1
   ·exact tt rfl (tl rfl)
   ·exact tf rfl ih
 ·dsimp only [spec_l9Names.S0, spec_l9Names.s0]
  refine tp (by omega) (ti hi ?_)
  rw [getD_in hi, wrap_succ (by omega)]
  refine tc (spec_l9Word.sp (by omega) (h2 _ (List.getElem_mem hi))) ?_
  cases freeM x.2.1[i].1
  ·exact tt rfl (tl rfl)
  ·exact tf rfl ih
theorem spec_l9Types.sp {d : Nat} (hd : 2 ≤ d) {x : Df} (h : dfFit 140737488351232 x) : spec_l9Types.f d (x.1, x.2.1, x.2.2.1, x.2.2.2) = some (typesM x.2.1) := by
 obtain ⟨d, rfl, _⟩ := dep hd
 rw [spec_l9Types.t_eq]
 dsimp only [spec_l9Types.m]
 have h1 := h.2.1.1
 refine Tells.eq (loopAnd (spec_l9Types.S0 d) x.2.1 (fun i => (i, x.1, x.2.1, x.2.2.1, x.2.2.2)) (fun c => inB c.2.1 1 4) _ (by omega) (fun L => ?_) fun L i hi e ih => ?_)
 ·dsimp only [spec_l9Types.S0, spec_l9Types.s0]
  exact tn (by omega) (tc (spec_l1In.sp (by omega) _ _ _) (tl rfl))
 ·dsimp only [spec_l9Types.S0, spec_l9Types.s0]
  refine tp (by omega) (ti hi ?_)
  rw [getD_in hi, wrap_succ (by omega)]
  refine tc (spec_l1In.sp (by omega) _ _ _) ?_
  cases inB x.2.1[i].2.1 1 4
  ·exact tt rfl (tl rfl)
  ·exact tf rfl ih
def firstI (s : ByteArray) : Nat → List Col → Int
 | _, [] => -1
 | n, x :: r => bif isT x.1 s then (n : Int) else firstI s (n + 1) r
theorem spec_l9Col.sp {d : Nat} (hd : 1 ≤ d) {x : Df} (h : x.2.1.length ≤ 140737488351232) (s : ByteArray) : spec_l9Col.f d (x.1, x.2.1, x.2.2.1, x.2.2.2, s) = some (firstI s 0 x.2.1) := by
 obtain ⟨d, rfl, _⟩ := dep hd
 rw [spec_l9Col.t_eq]
 dsimp only [spec_l9Col.m]
 refine Tells.eq (loopL (spec_l9Col.S0 d) x.2.1 (fun i => (s, i, x.1, x.2.1, x.2.2.1, x.2.2.2)) (fun i r => firstI s i r) (by omega) (fun L => ?_) fun L i hi ih => ?_)
 ·dsimp only [spec_l9Col.S0, spec_l9Col.s0]
  exact tn (by omega) (tl rfl)
 ·dsimp only [spec_l9Col.S0, spec_l9Col.s0]
  refine tp (by omega) (ti hi ?_)
  rw [getD_in hi, wrap_succ (by omega), firstI]
  exact tbif (fun c => tl (by rw [show isT x.2.1[i].1 s = true from c]; rfl)) fun c => by rw [show isT x.2.1[i].1 s = false from c]; exact ih
theorem firstI_app (s : ByteArray) (x : Col) (r : List Col) (hx : isT x.1 s = true) : ∀ (p : List Col) (n : Nat), (p.any (fun y => isT y.1 s) = true → firstI s n (p ++ x :: r) < (n + p.length : Nat)) ∧ (p.any (fun y => isT y.1 s) = false → firstI s n (p ++ x :: r) = (n + p.length : Nat))
 | [], n => ⟨fun h => by simp at h, fun _ => by simp [firstI, hx]⟩
 | y :: p, n => by
  have ih := firstI_app s x r hx p (n + 1)
  rw [List.cons_append, firstI, List.any_cons, List.length_cons]
  cases c : isT y.1 s
  ·rw [Bool.false_or]
   exact ⟨fun h => by have := ih.1 h; simp only [cond_false]; omega, fun h => by have := ih.2 h; simp only [cond_false]; omega⟩
  ·exact ⟨fun _ => by simp only [cond_true]; omega, fun h => by simp at h⟩
theorem isT_self (a : ByteArray) : isT a a = true := isT_iff.2 rfl
theorem take_succ' {β : Type} {l : List β} {i : Nat} (hi : i < l.length) : l.take (i + 1) = l.take i ++ [l[i]] := by
 rw [List.take_add_one, List.getElem?_eq_getElem hi]; rfl
theorem loopAhead {A R β : Type} (s : (A → Option R) → A → Option R) (l : List β) (n : Nat) (hn : n ≤ l.length) (mk : Int → A) (p : β → Bool) (v R0 : R) (hl : l.length ≤ 4611686018427387904)
  (base : ∀ L, Tells (s L (mk (n : Int))) (· = R0))
  (step : ∀ L i (hi : i < n) e, Tells (L (mk ((i + 1 : Nat) : Int))) (· = e) → Tells (s L (mk (i : Int))) (· = bif p l[i] then v else e)) :
  Tells (iter s rnds (mk (0 : Int))) (· = bif (l.take n).any p then v else R0) := by
 have hlen : (l.take n).length = n := by rw [List.length_take]; omega
 refine loopStop s (l.take n) mk p v R0 (by omega) (fun L => by rw [hlen]; exact base L) fun L i hi e ih => ?_
 have hi' : i < n := by omega
 have := step L i hi' e ih
 rwa [show (l.take n)[i] = l[i] by simp]
theorem spec_l9Once.sp {d : Nat} (hd : 2 ≤ d) {x : Df} (h : dfFit 140737488351232 x) : spec_l9Once.f d (x.1, x.2.1, x.2.2.1, x.2.2.2) = some (onceM x) := by
 obtain ⟨d, rfl, _⟩ := dep hd
 rw [spec_l9Once.t_eq]
 dsimp only [spec_l9Once.m]
 have h1 := h.2.1.1
 have h4 := h.2.2.2.1
 have two : Tells (iter (spec_l9Once.S2 d) rnds ((0 : Int), x.1, x.2.1, x.2.2.1, x.2.2.2)) (· = onceR [] (x.2.2.2.map (·.1))) := by
  refine loopL (spec_l9Once.S2 d) x.2.2.2 (fun i => (i, x.1, x.2.1, x.2.2.1, x.2.2.2)) (fun i (r : List Ix) => onceR ((x.2.2.2.take i).map (·.1)) (r.map (·.1))) (by omega) (fun L => ?_) fun L i hi ih => ?_
  ·dsimp only [spec_l9Once.S2, spec_l9Once.s2]
   exact tn (by omega) (tl rfl)
  ·dsimp only [spec_l9Once.S2, spec_l9Once.s2]
   refine tp (by omega) ?_
   have := loopAhead (spec_l9Once.S4 d L) x.2.2.2 i (by omega) (fun j => ((i : Int), j, x.1, x.2.1, x.2.2.1, x.2.2.2)) (fun y => isT y.1 x.2.2.2[i].1) false (onceR ((x.2.2.2.take (i + 1)).map fun c => c.1) ((x.2.2.2.drop (i + 1)).map fun c => c.1)) (by omega) (fun L4 => ?_) fun L4 j hj e ih2 => ?_
   ·refine this.mono fun r hr => ?_
    rw [hr, List.map_cons, onceR, List.any_map, take_succ' hi, List.map_append]
    show (bif (x.2.2.2.take i).any (fun y => isT y.1 x.2.2.2[i].1) then false else _) = (!((x.2.2.2.take i).any ((fun y => isT y x.2.2.2[i].1) ∘ (·.1))) && _)
    rw [show ((fun y => isT y x.2.2.2[i].1) ∘ (·.1) : Ix → Bool) = fun y => isT y.1 x.2.2.2[i].1 from rfl]
    cases (x.2.2.2.take i).any fun y => isT y.1 x.2.2.2[i].1
    ·exact (rfl : onceR ((x.2.2.2.take i).map (·.1) ++ [x.2.2.2[i].1]) _ = _)
    ·rfl
   ·dsimp only [spec_l9Once.S4, spec_l9Once.s4]
    refine tn (by omega) ?_
    rw [wrap_succ (by omega)]
    exact ih
   ·dsimp only [spec_l9Once.S4, spec_l9Once.s4]
    refine tp (by omega) (ti (by omega) (ti hi ?_))
    rw [getD_in hi, getD_in (show j < x.2.2.2.length by omega), wrap_succ (by omega)]
    exact tbif (fun c => tl (by rw [show isT _ _ = true from c]; rfl)) fun c => by rw [show isT _ _ = false from c]; exact ih2
 suffices g : Tells (iter (spec_l9Once.S0 d) rnds ((0 : Int), x.1, x.2.1, x.2.2.1, x.2.2.2)) (· = (onceR [] (x.2.1.map fun c => c.1) && onceR [] (x.2.2.2.map fun c => c.1))) from g.eq
 refine (loopL (spec_l9Once.S0 d) x.2.1 (fun i => (i, x.1, x.2.1, x.2.2.1, x.2.2.2)) (fun i (r : List Col) => onceR ((x.2.1.take i).map fun c => c.1) (r.map fun c => c.1) && onceR [] (x.2.2.2.map fun c => c.1)) (by omega) (fun L => ?_) fun L i hi ih => ?_)
 ·dsimp only [spec_l9Once.S0, spec_l9Once.s0]
  exact tn (by omega) (two.mono fun r hr => by rw [hr]; rfl)
 ·dsimp only [spec_l9Once.S0, spec_l9Once.s0]
  refine tp (by omega) (ti hi ?_)
  rw [getD_in hi, wrap_succ (by omega)]
  refine tc (spec_l9Col.sp (by omega) h1 _) ?_
  have tk : (x.2.1.take i).length = i := by rw [List.length_take]; omega
  have f := firstI_app x.2.1[i].1 x.2.1[i] (x.2.1.drop (i + 1)) (isT_self _) (x.2.1.take i) 0
  rw [← drop_at hi, List.take_append_drop, tk, Nat.zero_add] at f
  rw [List.map_cons, onceR, List.any_map]
  rw [take_succ' hi, List.map_append] at ih
  rw [show ((fun y => isT y x.2.1[i].1) ∘ (·.1) : Col → Bool) = fun y => isT y.1 x.2.1[i].1 from rfl]
  cases c : (x.2.1.take i).any fun y => isT y.1 x.2.1[i].1
  ·exact tf (by rw [f.2 c]; simp) ih
  ·exact tt (by have := f.1 c; simp; omega) (tl rfl)
theorem impl_twice.sp {d : Nat} (hd : 1 ≤ d) {x : Df} (h : dfFit 140737488351232 x) : impl_twice.f d (x.1, x.2.1, x.2.2.1, x.2.2.2) = some (!(onceM x)) := by
 obtain ⟨d, rfl, _⟩ := dep hd
 rw [impl_twice.t_eq]
 dsimp only [impl_twice.m]
 have h1 := h.2.1.1
 have h4 := h.2.2.2.1
 have two : Tells (iter (impl_twice.S4 d) rnds (x.2.2.2, (x.2.2.2.length : Int), (0 : Int), x.1, x.2.1, x.2.2.1, x.2.2.2)) (· = !(onceR [] (x.2.2.2.map (·.1)))) := by
  refine loopL (impl_twice.S4 d) x.2.2.2 (fun i => (x.2.2.2, (x.2.2.2.length : Int), i, x.1, x.2.1, x.2.2.1, x.2.2.2)) (fun i (r : List Ix) => !(onceR ((x.2.2.2.take i).map (·.1)) (r.map (·.1)))) (by omega) (fun L => ?_) fun L i hi ih => ?_
  ·dsimp only [impl_twice.S4, impl_twice.s4]
   exact tn (by omega) (tl rfl)
  ·dsimp only [impl_twice.S4, impl_twice.s4]
   have tk : (x.2.2.2.take i).length = i := by rw [List.length_take]; omega
   refine tp (by omega) (ti hi (tt (by simp; omega) ?_))
   rw [getD_in hi, Int.toNat_natCast, Int.toNat_zero, List.drop_zero]
   have := loopStop (impl_twice.S6 d L) (x.2.2.2.take i) (fun j => (x.2.2.2, (x.2.2.2.length : Int), (i : Int), x.2.2.2.take i, ((x.2.2.2.take i).length : Int), j, x.1, x.2.1, x.2.2.1, x.2.2.2, x.2.2.2[i].1, x.2.2.2[i].2.1, x.2.2.2[i].2.2)) (fun y => isT y.1 x.2.2.2[i].1) true (!(onceR ((x.2.2.2.take (i + 1)).map fun c => c.1) ((x.2.2.2.drop (i + 1)).map fun c => c.1))) (by omega) (fun L6 => ?_) fun L6 j hj e ih2 => ?_
   ·refine this.mono fun r hr => ?_
    rw [hr, List.map_cons, onceR, List.any_map, take_succ' hi, List.map_append]
    rw [show ((fun y => isT y x.2.2.2[i].1) ∘ (·.1) : Ix → Bool) = fun y => isT y.1 x.2.2.2[i].1 from rfl]
    cases (x.2.2.2.take i).any fun y => isT y.1 x.2.2.2[i].1
    ·exact (rfl : (!onceR ((x.2.2.2.take i).map (·.1) ++ [x.2.2.2[i].1]) _) = _)
    ·rfl
   ·dsimp only [impl_twice.S6, impl_twice.s6]
    refine tn (by omega) ?_
    rw [wrap_succ (by omega)]
    exact ih
   ·dsimp only [impl_twice.S6, impl_twice.s6]
    refine tp (by omega) (ti hj ?_)
    rw [getD_in hj, wrap_succ (by omega)]
    exact tbif (fun c => tl (by rw [show isT _ _ = true from c]; rfl)) fun c => by rw [show isT _ _ = false from c]; exact ih2
 suffices g : Tells (iter (impl_twice.S0 d) rnds (x.2.1, (x.2.1.length : Int), (0 : Int), x.1, x.2.1, x.2.2.1, x.2.2.2)) (· = !(onceR [] (x.2.1.map fun c => c.1) && onceR [] (x.2.2.2.map fun c => c.1))) from g.eq
 refine (loopL (impl_twice.S0 d) x.2.1 (fun i => (x.2.1, (x.2.1.length : Int), i, x.1, x.2.1, x.2.2.1, x.2.2.2)) (fun i (r : List Col) => !(onceR ((x.2.1.take i).map fun c => c.1) (r.map fun c => c.1) && onceR [] (x.2.2.2.map fun c => c.1))) (by omega) (fun L => ?_) fun L i hi ih => ?_)
 ·dsimp only [impl_twice.S0, impl_twice.s0]
  exact tn (by omega) (two.mono fun r hr => by rw [hr]; rfl)
 ·dsimp only [impl_twice.S0, impl_twice.s0]
  have tk : (x.2.1.take i).length = i := by rw [List.length_take]; omega
  refine tp (by omega) (ti hi (tt (by simp; omega) ?_))
  rw [getD_in hi, Int.toNat_natCast, Int.toNat_zero, List.drop_zero]
  have := loopStop (impl_twice.S2 d L) (x.2.1.take i) (fun j => (x.2.1, (x.2.1.length : Int), (i : Int), x.2.1.take i, ((x.2.1.take i).length : Int), j, x.1, x.2.1, x.2.2.1, x.2.2.2, x.2.1[i].1, x.2.1[i].2.1, x.2.1[i].2.2)) (fun y => isT y.1 x.2.1[i].1) true (!(onceR ((x.2.1.take (i + 1)).map fun c => c.1) ((x.2.1.drop (i + 1)).map fun c => c.1) && onceR [] (x.2.2.2.map fun c => c.1))) (by omega) (fun L2 => ?_) fun L2 j hj e ih2 => ?_
  ·refine this.mono fun r hr => ?_
   rw [hr, List.map_cons, onceR, List.any_map, take_succ' hi, List.map_append]
   rw [show ((fun y => isT y x.2.1[i].1) ∘ (·.1) : Col → Bool) = fun y => isT y.1 x.2.1[i].1 from rfl]
   cases (x.2.1.take i).any fun y => isT y.1 x.2.1[i].1
   ·exact (rfl : (!(onceR ((x.2.1.take i).map (·.1) ++ [x.2.1[i].1]) _ && _)) = _)
   ·rfl
  ·dsimp only [impl_twice.S2, impl_twice.s2]
   refine tn (by omega) ?_
   rw [wrap_succ (by omega)]
   exact ih
  ·dsimp only [impl_twice.S2, impl_twice.s2]
   refine tp (by omega) (ti hj ?_)
   rw [getD_in hj, wrap_succ (by omega)]
   exact tbif (fun c => tl (by rw [show isT _ _ = true from c]; rfl)) fun c => by rw [show isT _ _ = false from c]; exact ih2
theorem words_split : splitL (⟨#[116, 97, 98, 108, 101, 32, 112, 114, 105, 109, 97, 114, 121, 32, 117, 110, 105, 113, 117, 101, 32, 105, 110, 100, 101, 120, 32, 110, 117, 108, 108, 32, 100, 101, 115, 99, 32, 105, 110, 116, 32, 110, 117, 109, 32, 116, 101, 120, 116, 32, 98, 111, 111, 108]⟩ : ByteArray) = wordsL := by kernel_rfl
theorem impl_isFree.sp {d : Nat} (hd : 3 ≤ d) {s : ByteArray} (hs : s.size ≤ 140737488351232) : impl_isFree.f d s = some (freeM s) := by
 obtain ⟨d, rfl, _⟩ := dep hd
 rw [impl_isFree.t_eq]
 dsimp only [impl_isFree.m]
 obtain ⟨d, rfl, _⟩ := dep (show 1 + 1 ≤ d by omega)
 rw [strings_Split.t_eq]
 have e : splitLaw ((⟨#[116, 97, 98, 108, 101, 32, 112, 114, 105, 109, 97, 114, 121, 32, 117, 110, 105, 113, 117, 101, 32, 105, 110, 100, 101, 120, 32, 110, 117, 108, 108, 32, 100, 101, 115, 99, 32, 105, 110, 116, 32, 110, 117, 109, 32, 116, 101, 120, 116, 32, 98, 111, 111, 108]⟩ : ByteArray), (⟨#[32]⟩ : ByteArray)) = some wordsL := by
  unfold splitLaw
  rw [if_pos ⟨rfl, by decide⟩, words_split]
 refine Tells.eq (tc e ?_)
 have := loopStop (impl_isFree.S0 (d + 1)) wordsL (fun i => (s, (wordsL.length : Int), i, wordsL)) (fun w => isT w s) false (nameM s.size 0 (bytesOf s)) (by decide) (fun L => ?_) fun L i hi e ih => ?_
 ·refine this.mono fun r hr => ?_
  rw [hr]; unfold freeM; cases (wordsL.any fun w => isT w s) <;> simp
 ·dsimp only [impl_isFree.S0, impl_isFree.s0]
  exact tn (by omega) (tc (impl_nameOk.sp (by omega) hs) (tl rfl))
 ·dsimp only [impl_isFree.S0, impl_isFree.s0]
  have h10 : wordsL.length = 10 := rfl
  refine tp (by omega) (ti hi ?_)
  rw [getD_in hi, wrap_succ (by omega)]
  exact tbif (fun c => tl (by rw [show isT wordsL[i] s = true from c]; rfl)) fun c => by rw [show isT wordsL[i] s = false from c]; exact ih
theorem impl_namesOk.sp {d : Nat} (hd : 4 ≤ d) {x : Df} (h : dfFit 140737488351232 x) : impl_namesOk.f d (x.1, x.2.1, x.2.2.1, x.2.2.2) = some (namesM x) := by
 obtain ⟨d, rfl, _⟩ := dep hd
 rw [impl_namesOk.t_eq]
 dsimp only [impl_namesOk.m]
 obtain ⟨h0, ⟨h1, h2⟩, h3, h4, h5⟩ := h
 refine Tells.eq (loopAnd (impl_namesOk.S0 d) x.2.1 (fun i => (x.2.1, (x.2.1.length : Int), i, x.1, x.2.1, x.2.2.1, x.2.2.2)) (fun c => freeM c.1) _ (by omega) (fun L => ?_) fun L i hi e ih => ?_)
 ·dsimp only [impl_namesOk.S0, impl_namesOk.s0]
  refine tn (by omega) ?_
  refine loopAnd (impl_namesOk.S2 d) x.2.2.2 (fun i => (x.2.2.2, (x.2.2.2.length : Int), i, x.1, x.2.1, x.2.2.1, x.2.2.2)) (fun c => freeM c.1) _ (by omega) (fun L => ?_) fun L i hi e ih => ?_
  ·dsimp only [impl_namesOk.S2, impl_namesOk.s2]
   exact tn (by omega) (tc (impl_isFree.sp (by omega) h0) (tl rfl))
  ·dsimp only [impl_namesOk.S2, impl_namesOk.s2]
   refine tp (by omega) (ti hi ?_)
   rw [getD_in hi, wrap_succ (by omega)]
   refine tc (impl_isFree.sp (by omega) (h5 _ (List.getElem_mem hi)).1) ?_
   cases freeM x.2.2.2[i].1
   ·exact tt rfl (tl rfl)
   ·exact tf rfl ih
 ·dsimp only [impl_namesOk.S0, impl_namesOk.s0]
  refine tp (by omega) (ti hi ?_)
  rw [getD_in hi, wrap_succ (by omega)]
  refine tc (impl_isFree.sp (by omega) (h2 _ (List.getElem_mem hi))) ?_
  cases freeM x.2.1[i].1
  ·exact tt rfl (tl rfl)
  ·exact tf rfl ih
def partsA (n : Int) (q : Nat → By → Bool) (e : Bool) : Nat → List By → Bool
 | _, [] => e
 | i, x :: r => inB x.1 0 (n - 1) && (!(q i x) && partsA n q e (i + 1) r)
theorem partsA_no (n : Int) (q : Nat → By → Bool) : ∀ (r : List By) (i : Nat), partsA n q false i r = false
 | [], _ => rfl
 | x :: r, i => by rw [partsA, partsA_no n q r]; simp
theorem partsA_eq {n : Int} {q : Nat → By → Bool} {l : List By} (h0 : ∀ a r, l = a :: r → q 0 a = false) (h1 : ∀ a b r, l = a :: b :: r → q 1 b = decide (a.1 = b.1)) : partsA n q (inB l.length 1 2) 0 l = partsM n l := by
 cases c : inB l.length 1 2 with
 | false => rw [partsA_no, partsM_not (by rw [c]; simp)]
 | true =>
  have := inB_iff.1 c
  match l, h0, h1, this with
  | [], _, _, h => simp at h
  | [a], h0, _, _ => simp [partsA, partsM, h0 a [] rfl]
  | [a, b], h0, h1, _ => simp [partsA, partsM, h0 a [b] rfl, h1 a b [] rfl]
  | _ :: _ :: _ :: r, _, _, h => simp only [List.length_cons] at h; omega
theorem spec_l9Parts.sp {d : Nat} (hd : 2 ≤ d) {x : Df} (hc : x.2.1.length ≤ 140737488351232) {l : List By} (hl : l.length ≤ 140737488351232) : spec_l9Parts.f d (x.1, x.2.1, x.2.2.1, x.2.2.2, l) = some (partsM x.2.1.length l) := by
 obtain ⟨d, rfl, _⟩ := dep hd
 rw [spec_l9Parts.t_eq]
 dsimp only [spec_l9Parts.m]
 have wr : IntKind.wrap IntKind.i64 ((x.2.1.length : Int) - 1) = (x.2.1.length : Int) - 1 := wrap_id (by omega) (by omega)
 have one : ∀ L i (hi : i < l.length) e, Tells (L (l, ((i + 1 : Nat) : Int), x.1, x.2.1, x.2.2.1, x.2.2.2)) (· = e) → Tells (spec_l9Parts.S0 d L (l, (i : Int), x.1, x.2.1, x.2.2.1, x.2.2.2)) (· = (inB l[i].1 0 ((x.2.1.length : Int) - 1) && (!(decide (0 < i) && decide (l[0].1 = l[i].1)) && e))) := by
  intro L i hi e ih
  dsimp only [spec_l9Parts.S0, spec_l9Parts.s0]
  refine tp (by omega) (ti hi ?_)
  rw [getD_in hi, wrap_succ (by omega), wr]
  refine tc (spec_l1In.sp (by omega) _ _ _) ?_
  cases inB l[i].1 0 ((x.2.1.length : Int) - 1)
  ·exact tt rfl (tl rfl)
  refine tf rfl ?_
  by_cases c : i = 0
  ·subst c
   exact tn (by omega) (ih.mono fun r hr => by rw [hr]; rfl)
  ·refine tp (by omega) (tt (by simp; omega) (ti hi ?_))
   have h0 : 0 < l.length := by omega
   have e0 : List.getD l (Int.toNat (0 : Int)) ((0 : Int), false) = l[0] := getD_in h0
   rw [e0]
   refine tbif (fun c2 => tl ?_) fun c2 => ih.mono fun r hr => ?_
   ·have c2 := beq_iff_eq.1 c2
    rw [decide_eq_true (show 0 < i by omega), decide_eq_true c2]; rfl
   ·have c2 := beq_eq_false_iff_ne.1 c2
    rw [hr, decide_eq_false c2]; simp
 have last : ∀ L, Tells (spec_l9Parts.S0 d L (l, (l.length : Int), x.1, x.2.1, x.2.2.1, x.2.2.2)) (· = inB l.length 1 2) := fun L => by
  dsimp only [spec_l9Parts.S0, spec_l9Parts.s0]
  exact tn (by omega) (tc (spec_l1In.sp (by omega) _ _ _) (tl rfl))
 have g := loopL (spec_l9Parts.S0 d) l (fun i => (l, i, x.1, x.2.1, x.2.2.1, x.2.2.2)) (fun i r => partsA x.2.1.length (fun i y => decide (0 < i) && decide ((l.head?.map (·.1)) = some y.1)) (inB l.length 1 2) i r) (by omega) (fun L => (last L).mono fun r hr => hr) fun L i hi ih => (one L i hi _ ih).mono fun r hr => by
  rw [hr, partsA]
  have : l.head? = some l[0] := by rw [List.head?_eq_getElem?, List.getElem?_eq_getElem (by omega)]
  rw [this]
  simp
 refine Tells.eq (g.mono fun r hr => ?_)
 rw [hr]
 exact partsA_eq (fun a r h => by simp) fun a b r h => by rw [h]; simp
theorem impl_partsOk.sp {d : Nat} (hd : 2 ≤ d) {x : Df} (hc : x.2.1.length ≤ 140737488351232) {l : List By} (hl : l.length ≤ 140737488351232) : impl_partsOk.f d (x.1, x.2.1, x.2.2.1, x.2.2.2, l) = some (partsM x.2.1.length l) := by
 obtain ⟨d, rfl, _⟩ := dep hd
 rw [impl_partsOk.t_eq]
 dsimp only [impl_partsOk.m]
 have wr : IntKind.wrap IntKind.i64 ((x.2.1.length : Int) - 1) = (x.2.1.length : Int) - 1 := wrap_id (by omega) (by omega)
 have g := loopL (impl_partsOk.S0 d) l (fun i => (l, l, (l.length : Int), i, x.1, x.2.1, x.2.2.1, x.2.2.2)) (fun i r => partsA x.2.1.length (fun i y => (l.take i).any fun z => z.1 == y.1) (inB l.length 1 2) i r) (by omega) (fun L => ?_) fun L i hi ih => ?_
 ·refine Tells.eq (g.mono fun r hr => ?_)
  rw [hr]
  exact partsA_eq (fun a r h => by simp) fun a b r h => by rw [h]; simp [Bool.beq_eq_decide_eq]
 ·dsimp only [impl_partsOk.S0, impl_partsOk.s0]
  exact tn (by omega) (tc (impl_in.sp (by omega) _ _ _) (tl rfl))
 ·dsimp only [impl_partsOk.S0, impl_partsOk.s0]
  have tk : (l.take i).length = i := by rw [List.length_take]; omega
  refine tp (by omega) (ti hi ?_)
  rw [getD_in hi, wr, Int.toNat_natCast, Int.toNat_zero, List.drop_zero, partsA]
  refine tc (impl_in.sp (by omega) _ _ _) ?_
  cases inB l[i].1 0 ((x.2.1.length : Int) - 1)
  ·exact tt rfl (tl rfl)
  refine tf rfl (tt (by simp; omega) ?_)
  have := loopStop (impl_partsOk.S2 d L) (l.take i) (fun j => (l, l, (l.length : Int), (i : Int), l.take i, ((l.take i).length : Int), j, x.1, x.2.1, x.2.2.1, x.2.2.2, l[i].1, l[i].2)) (fun z => z.1 == l[i].1) false (partsA x.2.1.length (fun i y => (l.take i).any fun z => z.1 == y.1) (inB l.length 1 2) (i + 1) (l.drop (i + 1))) (by omega) (fun L2 => ?_) fun L2 j hj e ih2 => ?_
  ·refine this.mono fun r hr => ?_
   rw [hr]
   cases (l.take i).any fun z => z.1 == l[i].1 <;> simp
  ·dsimp only [impl_partsOk.S2, impl_partsOk.s2]
   refine tn (by omega) ?_
   rw [wrap_succ (by omega)]
   exact ih
  ·dsimp only [impl_partsOk.S2, impl_partsOk.s2]
   refine tp (by omega) (ti hj ?_)
   rw [getD_in hj, wrap_succ (by omega)]
   exact tbif (fun c => tl (by rw [c]; rfl)) fun c => by rw [c]; exact ih2
theorem spec_l9AllParts.sp {d : Nat} (hd : 3 ≤ d) {x : Df} (h : dfFit 140737488351232 x) : spec_l9AllParts.f d (x.1, x.2.1, x.2.2.1, x.2.2.2) = some (allPartsM x) := by
 obtain ⟨d, rfl, _⟩ := dep hd
 rw [spec_l9AllParts.t_eq]
 dsimp only [spec_l9AllParts.m]
 obtain ⟨h0, ⟨h1, h2⟩, h3, h4, h5⟩ := h
 refine Tells.eq (loopAnd (spec_l9AllParts.S0 d) x.2.2.2 (fun i => (i, x.1, x.2.1, x.2.2.1, x.2.2.2)) (fun c => partsM x.2.1.length c.2.2) _ (by omega) (fun L => ?_) fun L i hi e ih => ?_)
 ·dsimp only [spec_l9AllParts.S0, spec_l9AllParts.s0]
  exact tn (by omega) (tc (spec_l9Parts.sp (by omega) h1 h3) (tl rfl))
 ·dsimp only [spec_l9AllParts.S0, spec_l9AllParts.s0]
  refine tp (by omega) (ti hi ?_)
  rw [getD_in hi, wrap_succ (by omega)]
  refine tc (spec_l9Parts.sp (by omega) h1 (h5 _ (List.getElem_mem hi)).2) ?_
  cases partsM x.2.1.length x.2.2.2[i].2.2
  ·exact tt rfl (tl rfl)
  ·exact tf rfl ih
theorem spec_CheckDef.sp {d : Nat} (hd : 6 ≤ d) {x : Df} (h : dfFit 140737488351232 x) : spec_CheckDef.f d (x.1, x.2.1, x.2.2.1, x.2.2.2) = some (checkM x) := by
 obtain ⟨d, rfl, _⟩ := dep hd
 rw [spec_CheckDef.t_eq]
 dsimp only [spec_CheckDef.m]
 unfold checkM
 refine Tells.eq (tc (spec_l9Names.sp (by omega) h) ?_)
 cases namesM x
 ·exact tt rfl (tl rfl)
 refine tf rfl (tc (spec_l9Types.sp (by omega) h) ?_)
 cases typesM x.2.1
 ·exact tt rfl (tl rfl)
 refine tf rfl (tc (spec_l9Once.sp (by omega) h) ?_)
 cases onceM x
 ·exact tt rfl (tl rfl)
 refine tf rfl (tif (fun c => tl (by rw [decide_eq_true c]; rfl)) fun c => ?_)
 rw [decide_eq_false c]
 refine tc (spec_l9AllParts.sp (by omega) h) ?_
 cases c2 : allPartsM x
 ·exact tt rfl (tl rfl)
 refine tf rfl ?_
 have pin := partsM_in (allParts_of c2).1
 have h3 := h.2.2.1
 refine loopStop (spec_CheckDef.S1 d) x.2.2.1 (fun i => (i, x.1, x.2.1, x.2.2.1, x.2.2.2)) (nullAt x.2.1) (4 : Int) (0 : Int) (by omega) (fun L => ?_) fun L i hi e ih => ?_
 ·dsimp only [spec_CheckDef.S1, spec_CheckDef.s1]
  exact tn (by omega) (tl rfl)
 ·dsimp only [spec_CheckDef.S1, spec_CheckDef.s1]
  refine tp (by omega) (ti hi ?_)
  rw [getD_in hi, wrap_succ (by omega)]
  have q := pin _ (List.getElem_mem hi)
  refine tt (by rw [decide_eq_true q.1, decide_eq_true q.2]; rfl) (tbif (fun c => tl ?_) fun c => ?_)
  ·rw [show nullAt x.2.1 x.2.2.1[i] = true from c]; rfl
  ·rw [show nullAt x.2.1 x.2.2.1[i] = false from c]; exact ih
theorem impl_CheckDef.sp {d : Nat} (hd : 5 ≤ d) {x : Df} (h : dfFit 140737488351232 x) : impl_CheckDef.f d (x.1, x.2.1, x.2.2.1, x.2.2.2) = some (checkM x) := by
 obtain ⟨d, rfl, _⟩ := dep hd
 rw [impl_CheckDef.t_eq]
 dsimp only [impl_CheckDef.m]
 have ⟨h0, ⟨h1, h2⟩, h3, h4, h5⟩ := h
 have e4 : partsM x.2.1.length x.2.2.1 = true → Tells (iter (impl_CheckDef.S4 d) rnds (x.2.2.1, (x.2.2.1.length : Int), (0 : Int), x.1, x.2.1, x.2.2.1, x.2.2.2)) (· = bif x.2.2.1.any (nullAt x.2.1) then 4 else 0) := fun c2 => by
  have pin := partsM_in c2
  refine loopStop (impl_CheckDef.S4 d) x.2.2.1 (fun i => (x.2.2.1, (x.2.2.1.length : Int), i, x.1, x.2.1, x.2.2.1, x.2.2.2)) (nullAt x.2.1) (4 : Int) (0 : Int) (by omega) (fun L => ?_) fun L i hi e ih => ?_
  ·dsimp only [impl_CheckDef.S4, impl_CheckDef.s4]
   exact tn (by omega) (tl rfl)
  ·dsimp only [impl_CheckDef.S4, impl_CheckDef.s4]
   refine tp (by omega) (ti hi ?_)
   rw [getD_in hi, wrap_succ (by omega)]
   have q := pin _ (List.getElem_mem hi)
   refine tt (by rw [decide_eq_true q.1, decide_eq_true q.2]; rfl) (tbif (fun c => tl ?_) fun c => ?_)
   ·rw [show nullAt x.2.1 x.2.2.1[i] = true from c]; rfl
   ·rw [show nullAt x.2.1 x.2.2.1[i] = false from c]; exact ih
 have e2 : Tells (iter (impl_CheckDef.S2 d) rnds (x.2.2.2, (x.2.2.2.length : Int), (0 : Int), x.1, x.2.1, x.2.2.1, x.2.2.2)) (· = bif allPartsM x then (bif x.2.2.1.any (nullAt x.2.1) then 4 else 0) else 5) := by
  have g := loopStop (impl_CheckDef.S2 d) x.2.2.2 (fun i => (x.2.2.2, (x.2.2.2.length : Int), i, x.1, x.2.1, x.2.2.1, x.2.2.2)) (fun c => !(partsM x.2.1.length c.2.2)) (5 : Int) (bif partsM x.2.1.length x.2.2.1 then (bif x.2.2.1.any (nullAt x.2.1) then 4 else 0) else 5) (by omega) (fun L => ?_) fun L i hi e ih => ?_
  ·refine g.mono fun r hr => ?_
   rw [hr]
   unfold allPartsM
   rw [← List.not_all_eq_any_not]
   cases x.2.2.2.all (fun c => partsM x.2.1.length c.2.2) <;> cases partsM x.2.1.length x.2.2.1 <;> rfl
  ·dsimp only [impl_CheckDef.S2, impl_CheckDef.s2]
   refine tn (by omega) (tc (impl_partsOk.sp (by omega) h1 h3) ?_)
   cases c : partsM x.2.1.length x.2.2.1
   ·exact tt rfl (tl rfl)
   ·exact tf rfl (e4 c)
  ·dsimp only [impl_CheckDef.S2, impl_CheckDef.s2]
   refine tp (by omega) (ti hi ?_)
   rw [getD_in hi, wrap_succ (by omega)]
   refine tc (impl_partsOk.sp (by omega) h1 (h5 _ (List.getElem_mem hi)).2) ?_
   cases partsM x.2.1.length x.2.2.2[i].2.2
   ·exact tt rfl (tl rfl)
   ·exact tf rfl ih
 have e0 : Tells (iter (impl_CheckDef.S0 d) rnds (x.2.1, (x.2.1.length : Int), (0 : Int), x.1, x.2.1, x.2.2.1, x.2.2.2)) (· = bif x.2.1.any (fun c => !(inB c.2.1 1 4)) then 2 else bif onceM x then (bif decide ((x.2.2.2.length : Int) > 2) then 6 else bif allPartsM x then (bif x.2.2.1.any (nullAt x.2.1) then 4 else 0) else 5) else 3) := by
  refine loopStop (impl_CheckDef.S0 d) x.2.1 (fun i => (x.2.1, (x.2.1.length : Int), i, x.1, x.2.1, x.2.2.1, x.2.2.2)) (fun c => !(inB c.2.1 1 4)) (2 : Int) _ (by omega) (fun L => ?_) fun L i hi e ih => ?_
  ·dsimp only [impl_CheckDef.S0, impl_CheckDef.s0]
   refine tn (by omega) (tc (impl_twice.sp (by omega) h) ?_)
   cases onceM x
   ·exact tt rfl (tl rfl)
   ·exact tf rfl (tif (fun c => tl (by rw [decide_eq_true c]; rfl)) fun c => by rw [decide_eq_false c]; exact e2)
  ·dsimp only [impl_CheckDef.S0, impl_CheckDef.s0]
   refine tp (by omega) (ti hi ?_)
   rw [getD_in hi, wrap_succ (by omega)]
   refine tc (impl_in.sp (by omega) _ _ _) ?_
   cases inB x.2.1[i].2.1 1 4
   ·exact tt rfl (tl rfl)
   ·exact tf rfl ih
 unfold checkM
 refine Tells.eq (tc (impl_namesOk.sp (by omega) h) ?_)
 cases namesM x
 ·exact tt rfl (tl rfl)
 refine tf rfl (tc (impl_in.sp (by omega) _ _ _) ?_)
 unfold typesM
 cases inB x.2.1.length 1 6
 ·exact tt rfl (tl (by rw [Bool.and_false]; rfl))
 refine tf rfl (e0.mono fun r hr => ?_)
 rw [hr, ← List.not_all_eq_any_not, Bool.and_true]
 cases x.2.1.all fun c => inB c.2.1 1 4 <;> rfl
theorem tneq {a b : Int} {α : Type} {x y : Option α} {Q : α → Prop} (h1 : a ≠ b → Tells x Q) (h2 : a = b → Tells y Q) : Tells (bif a != b then x else y) Q := by
 by_cases h : a = b
 ·subst h; exact tf (by simp) (h2 rfl)
 ·exact tt (by simp [h]) (h1 h)
theorem teq {a b : Int} {α : Type} {x y : Option α} {Q : α → Prop} (h1 : a = b → Tells x Q) (h2 : a ≠ b → Tells y Q) : Tells (bif a == b then x else y) Q := by
 by_cases h : a = b
 ·subst h; exact tt (by simp) (h1 rfl)
 ·exact tf (by simp [h]) (h2 h)
theorem spec_FirstBad.sp {d : Nat} (hd : 7 ≤ d) {l : List Df} (hl : l.length ≤ 140737488351232) (hx : ∀ x ∈ l, dfFit 140737488351232 x) : spec_FirstBad.f d l = some (firstM l) := by
 obtain ⟨d, rfl, _⟩ := dep hd
 rw [spec_FirstBad.t_eq]
 dsimp only [spec_FirstBad.m]
 suffices g : Tells (iter (spec_FirstBad.S0 d) rnds (l, (0 : Int))) (· = firstR l 0 l) from g.eq
 refine loopL (spec_FirstBad.S0 d) l (fun i => (l, i)) (fun i (r : List Df) => firstR l i r) (by omega) (fun L => ?_) fun L i hi ih => ?_
 ·dsimp only [spec_FirstBad.S0, spec_FirstBad.s0]
  exact tn (by omega) (tl rfl)
 ·dsimp only [spec_FirstBad.S0, spec_FirstBad.s0]
  refine tp (by omega) (ti hi ?_)
  rw [getD_in hi, firstR]
  refine tc (spec_CheckDef.sp (by omega) (hx _ (List.getElem_mem hi))) (tneq (fun c => tl (by rw [decide_eq_false c]; rfl)) fun c => tif (fun c2 => tl ?_) fun c2 => ?_)
  ·rw [decide_eq_false (show ¬ i ≤ 2 by omega), Bool.and_false]; rfl
  rw [decide_eq_true c, decide_eq_true (show i ≤ 2 by omega), decide_eq_false c2]
  refine loopAhead (spec_FirstBad.S2 d L) l i (by omega) (fun j => (l, (i : Int), j, (i : Int), false)) (fun y => isT y.1 l[i].1) (i : Int) _ (by omega) (fun L2 => ?_) fun L2 j hj e ih2 => ?_
  ·dsimp only [spec_FirstBad.S2, spec_FirstBad.s2]
   refine tn (by omega) ?_
   rw [wrap_succ (by omega)]
   exact ih
  ·dsimp only [spec_FirstBad.S2, spec_FirstBad.s2]
   refine tp (by omega) (ti (by omega) (ti hi ?_))
   rw [getD_in hi, getD_in (show j < l.length by omega), wrap_succ (by omega)]
   exact tbif (fun c => tl (by rw [show isT _ _ = true from c]; rfl)) fun c => by rw [show isT _ _ = false from c]; exact ih2
theorem impl_FirstBad.sp {d : Nat} (hd : 6 ≤ d) {l : List Df} (hl : l.length ≤ 140737488351232) (hx : ∀ x ∈ l, dfFit 140737488351232 x) : impl_FirstBad.f d l = some (firstM l) := by
 obtain ⟨d, rfl, _⟩ := dep hd
 rw [impl_FirstBad.t_eq]
 dsimp only [impl_FirstBad.m]
 suffices g : Tells (iter (impl_FirstBad.S0 d) rnds (l, l, (l.length : Int), (0 : Int))) (· = firstR l 0 l) from g.eq
 refine loopL (impl_FirstBad.S0 d) l (fun i => (l, l, (l.length : Int), i)) (fun i (r : List Df) => firstR l i r) (by omega) (fun L => ?_) fun L i hi ih => ?_
 ·dsimp only [impl_FirstBad.S0, impl_FirstBad.s0]
  exact tn (by omega) (tl rfl)
 ·dsimp only [impl_FirstBad.S0, impl_FirstBad.s0]
  have tk : (l.take i).length = i := by rw [List.length_take]; omega
  refine tp (by omega) (ti hi ?_)
  rw [getD_in hi, firstR]
  refine tif (fun c2 => tl ?_) fun c2 => ?_
  ·rw [decide_eq_false (show ¬ i ≤ 2 by omega), Bool.and_false]; rfl
  rw [decide_eq_true (show i ≤ 2 by omega), Bool.and_true]
  refine tc (impl_CheckDef.sp (by omega) (hx _ (List.getElem_mem hi))) (tneq (fun c => tl (by rw [decide_eq_false c]; rfl)) fun c => tt (by simp; omega) ?_)
  rw [decide_eq_true c, Int.toNat_natCast, Int.toNat_zero, List.drop_zero, c]
  refine loopStop (impl_FirstBad.S2 d L) (l.take i) (fun j => (l, (i : Int), l, (l.length : Int), (i : Int), l[i].1, l[i].2.1, l[i].2.2.1, l[i].2.2.2, (0 : Int), ((0 : Int) != 0), l.take i, ((l.take i).length : Int), j, l[i].1, l[i].2.1, l[i].2.2.1, l[i].2.2.2)) (fun y => isT y.1 l[i].1) (i : Int) (firstR l (i + 1) (l.drop (i + 1))) (by omega) (fun L2 => ?_) fun L2 j hj e ih2 => ?_
  ·dsimp only [impl_FirstBad.S2, impl_FirstBad.s2]
   refine tn (by omega) ?_
   rw [wrap_succ (by omega)]
   exact ih
  ·dsimp only [impl_FirstBad.S2, impl_FirstBad.s2]
   refine tp (by omega) (ti hj ?_)
   rw [getD_in hj, wrap_succ (by omega)]
   exact tbif (fun c => tl (by rw [show isT _ _ = true from c]; rfl)) fun c => by rw [show isT _ _ = false from c]; exact ih2
theorem impl_partsOf.sp {d : Nat} (hd : 1 ≤ d) {x : Df} {l : List By} (hl : l.length ≤ 1000000000000) (hin : ∀ p ∈ l, 0 ≤ p.1 ∧ p.1 < x.2.1.length) : impl_partsOf.f d (x.1, x.2.1, x.2.2.1, x.2.2.2, l) = some (l.map (mkPart x.2.1)) := by
 obtain ⟨d, rfl, _⟩ := dep hd
 rw [impl_partsOf.t_eq]
 dsimp only [impl_partsOf.m]
 refine Tells.eq (loopApp (α := Int × Bool) (β := Int × Int × Bool × Bool) (impl_partsOf.S0 d) l (mkPart x.2.1) (fun st i => (l, (l.length : Int), i, x.1, x.2.1, x.2.2.1, x.2.2.2, st)) _ (by omega) (fun L => ?_) fun L st i Q hi h ih => ?_)
 ·dsimp only [impl_partsOf.S0, impl_partsOf.s0]
  exact tn (by omega) (tl rfl)
 ·dsimp only [impl_partsOf.S0, impl_partsOf.s0]
  have q := hin _ (List.getElem_mem hi)
  refine tp (by omega) (ti hi ?_)
  rw [getD_in hi, wrap_succ (by omega)]
  exact tt (by rw [decide_eq_true q.1, decide_eq_true q.2]; rfl) (tp (by simp only [List.length_cons, List.length_nil]; omega) ih)
theorem spec_l11Part.sp {d : Nat} (hd : 1 ≤ d) {x : Df} {k : Int} {b : Bool} (h0 : 0 ≤ k) (h1 : k < x.2.1.length) : spec_l11Part.f d (x.1, x.2.1, x.2.2.1, x.2.2.2, k, b) = some (mkPart x.2.1 (k, b)) := by
 obtain ⟨d, rfl, _⟩ := dep hd
 rw [spec_l11Part.t_eq]
 dsimp only [spec_l11Part.m]
 exact Tells.eq (tt (by rw [decide_eq_true h0, decide_eq_true h1]; rfl) (tt (by rw [decide_eq_true h0, decide_eq_true h1]; rfl) (tl rfl)))
theorem spec_l11Parts.sp {d : Nat} (hd : 2 ≤ d) {x : Df} {l : List By} (hl : l.length ≤ 1000000000000) (hin : ∀ p ∈ l, 0 ≤ p.1 ∧ p.1 < x.2.1.length) : spec_l11Parts.f d (x.1, x.2.1, x.2.2.1, x.2.2.2, l) = some (l.map (mkPart x.2.1)) := by
 obtain ⟨d, rfl, _⟩ := dep hd
 rw [spec_l11Parts.t_eq]
 dsimp only [spec_l11Parts.m]
 refine Tells.eq (loopApp (α := Int × Bool) (β := Int × Int × Bool × Bool) (spec_l11Parts.S0 d) l (mkPart x.2.1) (fun st i => (l, i, x.1, x.2.1, x.2.2.1, x.2.2.2, st)) _ (by omega) (fun L => ?_) fun L st i Q hi h ih => ?_)
 ·dsimp only [spec_l11Parts.S0, spec_l11Parts.s0]
  exact tn (by omega) (tl rfl)
 ·dsimp only [spec_l11Parts.S0, spec_l11Parts.s0]
  have q := hin _ (List.getElem_mem hi)
  refine tp (by omega) (ti hi (ti hi ?_))
  rw [getD_in hi, wrap_succ (by omega)]
  exact tc (spec_l11Part.sp (by omega) q.1 q.2) (tp (by simp only [List.length_cons, List.length_nil]; omega) ih)
theorem impl_PrimaryPlan.sp {d : Nat} (hd : 6 ≤ d) {x : Df} (h : dfFit 140737488351232 x) : impl_PrimaryPlan.f d (x.1, x.2.1, x.2.2.1, x.2.2.2) = some (planP x) := by
 obtain ⟨d, rfl, _⟩ := dep hd
 rw [impl_PrimaryPlan.t_eq]
 dsimp only [impl_PrimaryPlan.m]
 unfold planP
 refine Tells.eq (tc (impl_CheckDef.sp (by omega) h) (tneq (fun c => tl (by rw [decide_eq_false c]; rfl)) fun c => ?_))
 rw [decide_eq_true c]
 have g := (checkM_iff.1 c).parts
 exact tc (impl_partsOf.sp (by omega) (by have := partsM_len g.1; omega) (partsM_in g.1)) (tl rfl)
theorem spec_PrimaryPlan.sp {d : Nat} (hd : 7 ≤ d) {x : Df} (h : dfFit 140737488351232 x) : spec_PrimaryPlan.f d (x.1, x.2.1, x.2.2.1, x.2.2.2) = some (planP x) := by
 obtain ⟨d, rfl, _⟩ := dep hd
 rw [spec_PrimaryPlan.t_eq]
 dsimp only [spec_PrimaryPlan.m]
 unfold planP
 refine Tells.eq (tc (spec_CheckDef.sp (by omega) h) (tneq (fun c => tl (by rw [decide_eq_false c]; rfl)) fun c => ?_))
 rw [decide_eq_true c]
 have g := (checkM_iff.1 c).parts
 exact tc (spec_l11Parts.sp (by omega) (by have := partsM_len g.1; omega) (partsM_in g.1)) (tl rfl)
theorem impl_IndexPlan.sp {d : Nat} (hd : 6 ≤ d) {x : Df} (h : dfFit 140737488351232 x) (i : Int) : impl_IndexPlan.f d (x.1, x.2.1, x.2.2.1, x.2.2.2, i) = some (planI x i) := by
 obtain ⟨d, rfl, _⟩ := dep hd
 rw [impl_IndexPlan.t_eq]
 dsimp only [impl_IndexPlan.m]
 unfold planI
 have h4 := h.2.2.2.1
 refine Tells.eq (tc (impl_CheckDef.sp (by omega) h) (tneq (fun c => tl (by rw [decide_eq_false c]; rfl)) fun c => ?_))
 rw [decide_eq_true c, wrap_id (by omega) (by omega)]
 have g := (checkM_iff.1 c).parts
 refine tc (impl_in.sp (by omega) _ _ _) ?_
 cases e : inB i 0 ((x.2.2.2.length : Int) - 1) with
 | false => exact tt rfl (tl rfl)
 | true =>
  have b := inB_iff.1 e
  refine tf rfl (tt (by rw [decide_eq_true b.1, decide_eq_true (show i < (x.2.2.2.length : Int) by omega)]; rfl) ?_)
  have m : ixAt x.2.2.2 i ∈ x.2.2.2 := at_mem b.1 (by omega)
  have gi := g.2 _ m
  refine tc (impl_partsOf.sp (l := (ixAt x.2.2.2 i).2.2) (by omega) (by have := partsM_len gi; omega) (partsM_in gi)) (tc (impl_partsOf.sp (by omega) (by have := partsM_len g.1; omega) (partsM_in g.1)) (tp ?_ (tl rfl)))
  have := partsM_len gi
  have := partsM_len g.1
  rw [List.length_map, List.length_map]; omega
theorem spec_IndexPlan.sp {d : Nat} (hd : 7 ≤ d) {x : Df} (h : dfFit 140737488351232 x) (i : Int) : spec_IndexPlan.f d (x.1, x.2.1, x.2.2.1, x.2.2.2, i) = some (planI x i) := by
 obtain ⟨d, rfl, _⟩ := dep hd
 rw [spec_IndexPlan.t_eq]
 dsimp only [spec_IndexPlan.m]
 unfold planI
 have h4 := h.2.2.2.1
 refine Tells.eq (tc (spec_CheckDef.sp (by omega) h) (tneq (fun c => tl (by rw [decide_eq_false c]; rfl)) fun c => ?_))
 rw [decide_eq_true c, wrap_id (by omega) (by omega)]
 have g := (checkM_iff.1 c).parts
 refine tc (spec_l1In.sp (by omega) _ _ _) ?_
 cases e : inB i 0 ((x.2.2.2.length : Int) - 1) with
 | false => exact tt rfl (tl rfl)
 | true =>
  have b := inB_iff.1 e
  refine tf rfl (tt (by rw [decide_eq_true b.1, decide_eq_true (show i < (x.2.2.2.length : Int) by omega)]; rfl) ?_)
  have m : ixAt x.2.2.2 i ∈ x.2.2.2 := at_mem b.1 (by omega)
  have gi := g.2 _ m
  refine tc (spec_l11Parts.sp (l := (ixAt x.2.2.2 i).2.2) (by omega) (by have := partsM_len gi; omega) (partsM_in gi)) (tc (spec_l11Parts.sp (by omega) (by have := partsM_len g.1; omega) (partsM_in g.1)) (tp ?_ (tl rfl)))
  have := partsM_len gi
  have := partsM_len g.1
  rw [List.length_map, List.length_map]; omega
theorem rowR_snoc : ∀ (r : List Col) (i : Nat) (c : Col), rowR i (r ++ [c]) = rowR i r ++ [(((i + r.length : Nat) : Int), c.2.1, c.2.2, false)]
 | [], i, c => rfl
 | x :: r, i, c => by rw [List.cons_append, rowR, rowR_snoc r (i + 1) c, rowR, List.cons_append, List.length_cons]; congr 5; omega
theorem impl_RowPlan.sp {d : Nat} (hd : 6 ≤ d) {x : Df} (h : dfFit 140737488351232 x) : impl_RowPlan.f d (x.1, x.2.1, x.2.2.1, x.2.2.2) = some (planR x) := by
 obtain ⟨d, rfl, _⟩ := dep hd
 rw [impl_RowPlan.t_eq]
 dsimp only [impl_RowPlan.m]
 unfold planR
 refine Tells.eq (tc (impl_CheckDef.sp (by omega) h) (tneq (fun c => tl (by rw [decide_eq_false c]; rfl)) fun c => ?_))
 rw [decide_eq_true c]
 have c6 := (checkM_iff.1 c).types.2.2
 refine loop0 (σ := List (Int × Int × Bool × Bool)) (impl_RowPlan.S0 d) x.2.1.length (fun st i => (x.2.1, (x.2.1.length : Int), i, st)) (fun st i => st = rowR 0 (x.2.1.take i)) (fun _ _ r => r = rowR 0 x.2.1) [] (by omega) rfl ?_ ?_
 ·rintro L st rfl
  dsimp only [impl_RowPlan.S0, impl_RowPlan.s0]
  exact tn (by omega) (tl (by rw [List.take_length]))
 ·rintro L st i rfl hi ih
  dsimp only [impl_RowPlan.S0, impl_RowPlan.s0]
  refine tp (by omega) (ti hi ?_)
  rw [getD_in hi, wrap_succ (by omega)]
  refine tp (by rw [rowR_len]; simp only [List.length_cons, List.length_nil, List.length_take]; omega) (ih _ ?_)
  rw [take_succ' hi, rowR_snoc, List.length_take, Nat.zero_add, show min i x.2.1.length = i by omega]
theorem spec_RowPlan.sp {d : Nat} (hd : 7 ≤ d) {x : Df} (h : dfFit 140737488351232 x) : spec_RowPlan.f d (x.1, x.2.1, x.2.2.1, x.2.2.2) = some (planR x) := by
 obtain ⟨d, rfl, _⟩ := dep hd
 rw [spec_RowPlan.t_eq]
 dsimp only [spec_RowPlan.m]
 unfold planR
 have h1 := h.2.1.1
 have cd := spec_CheckDef.sp (d := d) (by omega) h
 refine Tells.eq ?_
 by_cases c : checkM x = 0
 ·rw [decide_eq_true c]
  have c6 := (checkM_iff.1 c).types.2.2
  refine loop0 (σ := List (Int × Int × Bool × Bool)) (spec_RowPlan.S0 d) x.2.1.length (fun st i => (i, x.1, x.2.1, x.2.2.1, x.2.2.2, st)) (fun st i => st = rowR 0 (x.2.1.take i)) (fun _ _ r => r = rowR 0 x.2.1) [] (by omega) rfl ?_ ?_
  ·rintro L st rfl
   dsimp only [spec_RowPlan.S0, spec_RowPlan.s0]
   exact tn (by omega) (tl (by rw [List.take_length]))
  ·rintro L st i rfl hi ih
   dsimp only [spec_RowPlan.S0, spec_RowPlan.s0]
   refine tp (by omega) (tc cd (teq (fun _ => ?_) fun n => absurd c n))
   refine tc (spec_l11Part.sp (by omega) (by omega) (by omega)) ?_
   rw [wrap_succ (by omega)]
   refine tp (by rw [rowR_len]; simp only [List.length_cons, List.length_nil, List.length_take]; omega) (ih _ ?_)
   rw [take_succ' hi, rowR_snoc, List.length_take, Nat.zero_add, show min i x.2.1.length = i by omega]
   unfold mkPart colAt
   rw [getD_in hi]
 ·rw [decide_eq_false c]
  obtain ⟨R, hR⟩ : ∃ R, rnds = R + 1 := ⟨rnds - 1, by have := rnds_gt (n := 0) (by decide); omega⟩
  rw [hR]
  simp only [iter]
  dsimp only [spec_RowPlan.S0, spec_RowPlan.s0]
  exact tif (fun _ => tc cd (teq (fun n => absurd n c) fun _ => tl rfl)) fun _ => tl rfl
abbrev SCol : SS := .cons .str (.cons (.int .i64) (.one .bool))
abbrev SBy : SS := .cons (.int .i64) (.one .bool)
abbrev SIx : SS := .cons .str (.cons .bool (.one (.row SBy)))
abbrev SDf : SS := .cons .str (.cons (.row SCol) (.cons (.row SBy) (.one (.row SIx))))
theorem df_fit {x : Df} (h1 : okV .str x.1) (h2 : okV (.row SCol) x.2.1) (h3 : okV (.row SBy) x.2.2.1) (h4 : okV (.row SIx) x.2.2.2) : dfFit 140737488351232 x :=
 ⟨h1, ⟨okRow_len h2, fun y hy => (h2.2 y hy).1⟩, okRow_len h3, okRow_len h4, fun y hy => ⟨(h4.2 y hy).1, okRow_len (h4.2 y hy).2.2⟩⟩
theorem planP_len (x : Df) : (planP x).length ≤ 10 := by
 unfold planP
 by_cases c : checkM x = 0
 ·rw [decide_eq_true c, cond_true, List.length_map]
  have := partsM_len (checkM_iff.1 c).parts.1; omega
 ·rw [decide_eq_false c]; exact Nat.zero_le _
theorem planI_len (x : Df) (i : Int) : (planI x i).length ≤ 10 := by
 unfold planI
 by_cases c : checkM x = 0
 ·rw [decide_eq_true c, cond_true]
  cases e : inB i 0 ((x.2.2.2.length : Int) - 1) with
  | false => exact Nat.zero_le _
  | true =>
   have b := inB_iff.1 e
   have g := (checkM_iff.1 c).parts
   have m : ixAt x.2.2.2 i ∈ x.2.2.2 := at_mem b.1 (by omega)
   have := partsM_len g.1
   have := partsM_len (g.2 _ m)
   rw [cond_true, List.length_append, List.length_map, List.length_map]
   omega
 ·rw [decide_eq_false c]; exact Nat.zero_le _
theorem planR_len (x : Df) : (planR x).length ≤ 10 := by
 unfold planR
 by_cases c : checkM x = 0
 ·rw [decide_eq_true c, cond_true, rowR_len]
  have := (checkM_iff.1 c).types.2.2; omega
 ·rw [decide_eq_false c]; exact Nat.zero_le _
def nmC : List ByteArray := [(⟨#[105, 100]⟩ : ByteArray), (⟨#[97]⟩ : ByteArray), (⟨#[98]⟩ : ByteArray), (⟨#[99]⟩ : ByteArray)]
def uvL : List ByteArray := [(⟨#[117]⟩ : ByteArray), (⟨#[118]⟩ : ByteArray)]
def colsD (k : Nat) (cs : List Col) : Prop := cs.map (·.1) = nmC.take k ∧ (∀ c ∈ cs, inB c.2.1 1 4 = true) ∧ (colAt cs 0).2.2 = false
def primD (cs : List Col) (ps : List By) : Prop := ps.any (nullAt cs) = false ∧ partsM cs.length ps = true
def idxD (cs : List Col) (xs : List Ix) : Prop := (xs.map (·.1) = [] ∨ (∃ u ∈ uvL, xs.map (·.1) = [u ++ (⟨#[98]⟩ : ByteArray)]) ∨ ∃ u ∈ uvL, ∃ v ∈ uvL, xs.map (·.1) = [u ++ (⟨#[99]⟩ : ByteArray), v ++ (⟨#[98]⟩ : ByteArray)]) ∧ ∀ x ∈ xs, partsM cs.length x.2.2 = true
def drawn (name : ByteArray) (x : Df) : Prop := x.1 = name ∧ (∃ k, 2 ≤ k ∧ k ≤ 4 ∧ colsD k x.2.1) ∧ primD x.2.1 x.2.2.1 ∧ idxD x.2.1 x.2.2.2
theorem drawn.names {name : ByteArray} {x : Df} (h : drawn name x) : ∀ c ∈ x.2.1, c.1 ∈ nmC := by
 obtain ⟨_, ⟨k, _, _, hk, _⟩, _⟩ := h
 intro c hc
 have := List.mem_map_of_mem (f := fun y : Col => y.1) hc
 rw [hk] at this
 exact List.mem_of_mem_take this
theorem impl_PartOk.sp {d : Nat} (hd : 2 ≤ d) (p : Pt) : impl_PartOk.f d (p.1, p.2.1, p.2.2.1, p.2.2.2) = some (partOkM p.1 p.2.1) := by
 obtain ⟨d, rfl, _⟩ := dep hd
 rw [impl_PartOk.t_eq]
 dsimp only [impl_PartOk.m]
 unfold partOkM
 refine Tells.eq (tc (impl_in.sp (by omega) _ _ _) (tbif (fun c => ?_) fun c => ?_))
 ·rw [if_pos c]; exact tc (impl_in.sp (by omega) _ _ _) (tl rfl)
 ·rw [if_neg (by rw [c]; simp)]; exact tl rfl
def planOkM (l : List Pt) : Bool := l.all (fun p => partOkM p.1 p.2.1) && decide (l.length ≤ 6)
theorem impl_PlanOk.sp {d : Nat} (hd : 3 ≤ d) {l : List Pt} (hl : l.length ≤ 140737488351232) : impl_PlanOk.f d l = some (planOkM l) := by
 obtain ⟨d, rfl, _⟩ := dep hd
 rw [impl_PlanOk.t_eq]
 dsimp only [impl_PlanOk.m]
 suffices g : Tells (iter (impl_PlanOk.S0 d) rnds (l, (l.length : Int), (0 : Int))) (· = (l.all (fun p => partOkM p.1 p.2.1) && decide (l.length ≤ 6))) from g.eq
 have g := loopL (impl_PlanOk.S0 d) l (fun i => (l, (l.length : Int), i)) (fun i (r : List Pt) => r.all (fun p => partOkM p.1 p.2.1) && decide (l.length ≤ 6 ∨ r.length = 0 )) (by omega) (fun L => ?_) fun L i hi ih => ?_
 ·refine g.mono fun r hr => ?_
  rw [hr]
  by_cases c : l.length ≤ 6
  ·simp [c]
  ·have : ¬ l.length = 0 := by omega
   simp [c, this]
 ·dsimp only [impl_PlanOk.S0, impl_PlanOk.s0]
  exact tn (by omega) (tl (by simp))
 ·dsimp only [impl_PlanOk.S0, impl_PlanOk.s0]
  refine tp (by omega) (ti hi ?_)
  rw [getD_in hi, wrap_succ (by omega), List.all_cons, List.length_cons]
  refine tif (fun c => tl ?_) fun c => tc (impl_PartOk.sp (by omega) _) ?_
  ·rw [decide_eq_false (show ¬ (l.length ≤ 6 ∨ (l.drop (i + 1)).length + 1 = 0) by omega), Bool.and_false]
  cases partOkM l[i].1 l[i].2.1
  ·exact tt rfl (tl (by simp))
  ·refine tf rfl (ih.mono fun r hr => ?_)
   rw [hr, Bool.true_and]
   congr 1
   rw [List.length_drop]
   by_cases c6 : l.length ≤ 6
   ·simp [c6]
   ·rw [decide_eq_false (show ¬ (l.length ≤ 6 ∨ l.length - (i + 1) = 0) by omega), decide_eq_false (show ¬ (l.length ≤ 6 ∨ l.length - (i + 1) + 1 = 0) by omega)]
theorem goodM.cols {x : Df} (g : goodM x) : namesS x.2.1 ∧ (∀ c ∈ x.2.1, c.1.size ≤ 8 ∧ 1 ≤ c.2.1 ∧ c.2.1 ≤ 4) ∧ x.1.size ≤ 8 ∧ ∀ y ∈ x.2.2.2, y.1.size ≤ 8 := by
 obtain ⟨n1, n2, n3⟩ := g.names
 have t := g.types
 have hn : namesS x.2.1 := fun c hc => (freeM_size (n2 c hc)).2
 exact ⟨hn, fun c hc => ⟨hn c hc, inB_iff.1 (t.1 c hc)⟩, (freeM_size n1).2, fun y hy => (freeM_size (n3 y hy)).2⟩
abbrev Tok := Int × ByteArray
def wTable : ByteArray := ⟨#[116, 97, 98, 108, 101]⟩
def wPrimary : ByteArray := ⟨#[112, 114, 105, 109, 97, 114, 121]⟩
def wUnique : ByteArray := ⟨#[117, 110, 105, 113, 117, 101]⟩
def wIndex : ByteArray := ⟨#[105, 110, 100, 101, 120]⟩
def wNull : ByteArray := ⟨#[110, 117, 108, 108]⟩
def wDesc : ByteArray := ⟨#[100, 101, 115, 99]⟩
def mOpen : ByteArray := ⟨#[123]⟩
def mClose : ByteArray := ⟨#[125]⟩
def mComma : ByteArray := ⟨#[44]⟩
def mSemi : ByteArray := ⟨#[59]⟩
def colToks (c : Col) : List Tok := (1, c.1) :: (1, tyAt c.2.1) :: ((bif c.2.2 then [(1, wNull)] else []) ++ [(2, mSemi)])
def partToks (cs : List Col) (p : By) : List Tok := (1, (colAt cs p.1).1) :: (bif p.2 then [(1, wDesc)] else [])
def partsToks (cs : List Col) : List By → List Tok
 | [] => []
 | [p] => partToks cs p ++ [(2, mSemi)]
 | p :: q :: r => partToks cs p ++ (2, mComma) :: partsToks cs (q :: r)
def idxToks (cs : List Col) (x : Ix) : List Tok := (1, bif x.2.1 then wUnique else wIndex) :: (1, x.1) :: partsToks cs x.2.2
def defToks (x : Df) : List Tok := (1, wTable) :: (1, x.1) :: (2, mOpen) :: (x.2.1.flatMap colToks ++ (1, wPrimary) :: (partsToks x.2.1 x.2.2.1 ++ (x.2.2.2.flatMap (idxToks x.2.1) ++ [(2, mClose)])))
def allToks (l : List Df) : List Tok := l.flatMap defToks
def runM : List Int → Nat
 | [] => 0
 | c :: r => if inB c 97 122 = true ∨ inB c 48 57 = true then runM r + 1 else 0
def blankM (c : Int) : Bool := c == 32 || (c == 9 || (c == 10 || c == 13))
def lexB : Nat → List Int → Nat → List Tok → List Tok × Int
 | 0, w, i, t => if w = [] then (t, -1) else ([], (i : Int))
 | _ + 1, [], _, t => (t, -1)
 | n + 1, c :: w, i, t => if blankM c = true then lexB n w (i + 1) t else
   if inB c 97 122 = true then (if tokM 1 (c :: w.take (runM w)) = true then (if t.length = 500 then ([], (i : Int)) else lexB n (w.drop (runM w)) (i + 1 + runM w) (t ++ [(1, numsStr (c :: w.take (runM w)))])) else ([], (i : Int)))
   else (if tokM 2 [c] = true then (if t.length = 500 then ([], (i : Int)) else lexB n w (i + 1) (t ++ [(2, numsStr [c])])) else ([], (i : Int)))
theorem lexB_nil (n i : Nat) (t : List Tok) : lexB n [] i t = (t, -1) := by cases n <;> simp [lexB]
def Lx (w : List Int) (ts : List Tok) : Prop := ∀ n i t, w.length ≤ n → t.length + ts.length ≤ 500 → lexB n w i t = (t ++ ts, -1)
theorem Lx.nil : Lx [] [] := fun n i t _ _ => by rw [lexB_nil, List.append_nil]
theorem Lx.blank {c : Int} {w : List Int} {ts : List Tok} (hc : blankM c = true) (h : Lx w ts) : Lx (c :: w) ts := fun n i t hn ht => by
 obtain ⟨n, rfl⟩ : ∃ m, n = m + 1 := ⟨n - 1, by simp only [List.length_cons] at hn; omega⟩
 rw [lexB, if_pos hc]
 exact h n _ t (by simp only [List.length_cons] at hn; omega) ht
theorem Lx.mark {c : Int} {w : List Int} {ts : List Tok} (hc : blankM c = false) (hl : inB c 97 122 = false) (hm : markM [c] = true) (h : Lx w ts) : Lx (c :: w) ((2, numsStr [c]) :: ts) := fun n i t hn ht => by
 obtain ⟨n, rfl⟩ : ∃ m, n = m + 1 := ⟨n - 1, by simp only [List.length_cons] at hn; omega⟩
 simp only [List.length_cons] at ht hn
 have e : tokM 2 [c] = true := by unfold tokM; rw [if_neg (by decide), if_pos rfl]; exact hm
 rw [lexB, if_neg (by rw [hc]; simp), if_neg (by rw [hl]; simp), if_pos e, if_neg (by omega)]
 rw [h n _ _ (by omega) (by simp only [List.length_append, List.length_cons, List.length_nil]; omega)]
 simp
def endsN (w : List Int) : Prop := w = [] ∨ ∃ c r, w = c :: r ∧ inB c 97 122 = false ∧ inB c 48 57 = false
theorem runM_app : ∀ (a r : List Int), (∀ c ∈ a, inB c 97 122 = true ∨ inB c 48 57 = true) → endsN r → runM (a ++ r) = a.length
 | [], r, _, hr => by
  rcases hr with rfl | ⟨c, r, rfl, h1, h2⟩
  ·rfl
  ·simp [runM, h1, h2]
 | c :: a, r, h, hr => by
  have ih := runM_app a r (fun x hx => h x (List.mem_cons_of_mem _ hx)) hr
  rw [List.cons_append, runM, ih, if_pos (h c List.mem_cons_self), List.length_cons]
theorem nameM_rest (n : Int) : ∀ (a : List Int) (i : Nat), 0 < i → nameM n i a = true → ∀ c ∈ a, inB c 97 122 = true ∨ inB c 48 57 = true
 | [], i, _, h => by simp
 | c :: a, i, hi, h => by
  rw [nameM] at h
  split at h
  ·rename_i h1
   have := nameM_rest n a (i + 1) (by omega) h
   exact fun x hx => by rcases List.mem_cons.1 hx with rfl | hx; exact Or.inl h1; exact this x hx
  ·split at h
   ·omega
   ·split at h
    ·rename_i h1
     have := nameM_rest n a (i + 1) (by omega) h
     exact fun x hx => by rcases List.mem_cons.1 hx with rfl | hx; exact Or.inr h1; exact this x hx
    ·cases h
theorem Lx.name {b w : List Int} {ts : List Tok} (hb : nameM b.length 0 b = true) (he : endsN w) (h : Lx w ts) : Lx (b ++ w) ((1, numsStr b) :: ts) := fun n i t hn ht => by
 match b, hb with
 | [], hb => simp [nameM, inB] at hb
 | c :: a, hb =>
  obtain ⟨n, rfl⟩ : ∃ m, n = m + 1 := ⟨n - 1, by simp only [List.cons_append, List.length_cons] at hn; omega⟩
  simp only [List.length_cons, List.cons_append, List.length_append] at ht hn
  have hl : inB c 97 122 = true ∧ nameM ((c :: a).length : Nat) 1 a = true := by
   rw [nameM] at hb
   split at hb
   ·rename_i h1; exact ⟨h1, hb⟩
   ·rw [if_pos rfl] at hb; cases hb
  have hrest := nameM_rest _ a 1 (by omega) hl.2
  have nb : ¬ blankM c = true := by
   have := inB_iff.1 hl.1
   unfold blankM
   simp; omega
  have ok : tokM 1 (c :: a) = true := by unfold tokM; rw [if_pos rfl]; exact hb
  rw [List.cons_append, lexB, if_neg nb, if_pos hl.1, runM_app a w hrest he, List.take_left, List.drop_left, if_pos ok, if_neg (by omega)]
  rw [h n _ _ (by omega) (by simp only [List.length_append, List.length_cons, List.length_nil]; omega)]
  simp
theorem bytes_app (a b : ByteArray) : bytesOf (a ++ b) = bytesOf a ++ bytesOf b := by
 simp [strNums, ByteArray.data_append]
theorem blank_sp : blankM 32 = true := by decide
theorem ends_sp (w : List Int) : endsN (32 :: w) := .inr ⟨32, w, rfl, by decide, by decide⟩
theorem ends_comma (w : List Int) : endsN (44 :: w) := .inr ⟨44, w, rfl, by decide, by decide⟩
theorem ends_semi (w : List Int) : endsN (59 :: w) := .inr ⟨59, w, rfl, by decide, by decide⟩
theorem Lx.name' {s : ByteArray} {w : List Int} {ts : List Tok} (hb : nameM s.size 0 (bytesOf s) = true) (he : endsN w) (h : Lx w ts) : Lx (bytesOf s ++ w) ((1, s) :: ts) := by
 have := Lx.name (b := bytesOf s) (by rw [bytesOf_length]; exact hb) he h
 rwa [show numsStr (bytesOf s) = s from strOf_bytesOf s] at this
theorem Lx.semi {w : List Int} {ts : List Tok} (h : Lx w ts) : Lx (59 :: 32 :: w) ((2, mSemi) :: ts) := Lx.mark (c := 59) (by decide) (by decide) (by decide) (h.blank blank_sp)
theorem free_name {s : ByteArray} (h : freeM s = true) : nameM s.size 0 (bytesOf s) = true := by
 unfold freeM at h; rw [Bool.and_eq_true] at h; exact h.1
theorem tyAt_name : ∀ t : Int, inB t 1 4 = true → nameM (tyAt t).size 0 (bytesOf (tyAt t)) = true := by
 intro t h
 have := inB_iff.1 h
 have : t = 1 ∨ t = 2 ∨ t = 3 ∨ t = 4 := by omega
 rcases this with e | e | e | e <;> subst e <;> decide +kernel
def colBy (c : Col) : List Int := bytesOf c.1 ++ 32 :: (bytesOf (tyAt c.2.1) ++ ((bif c.2.2 then 32 :: bytesOf wNull else []) ++ [59, 32]))
theorem colS_bytes (s : ByteArray) (c : Col) : bytesOf (colS s c) = bytesOf s ++ colBy c := by
 have e1 : bytesOf (⟨#[32]⟩ : ByteArray) = [32] := by decide +kernel
 have e2 : bytesOf (⟨#[32, 110, 117, 108, 108]⟩ : ByteArray) = 32 :: bytesOf wNull := by decide +kernel
 have e3 : bytesOf (⟨#[59, 32]⟩ : ByteArray) = [59, 32] := by decide +kernel
 unfold colS colBy
 cases c.2.2 <;> simp only [cond_true, cond_false, bytes_app, e1, e2, e3] <;> simp
theorem foldl_bytes {β : Type} (f : ByteArray → β → ByteArray) (g : β → List Int) (h : ∀ s x, bytesOf (f s x) = bytesOf s ++ g x) : ∀ (l : List β) (s : ByteArray), bytesOf (l.foldl f s) = bytesOf s ++ l.flatMap g
 | [], s => by simp
 | x :: r, s => by rw [List.foldl_cons, foldl_bytes f g h r, h, List.flatMap_cons, List.append_assoc]
theorem null_name : nameM wNull.size 0 (bytesOf wNull) = true ∧ nameM wDesc.size 0 (bytesOf wDesc) = true ∧ nameM wTable.size 0 (bytesOf wTable) = true ∧ nameM wPrimary.size 0 (bytesOf wPrimary) = true ∧ nameM wUnique.size 0 (bytesOf wUnique) = true ∧ nameM wIndex.size 0 (bytesOf wIndex) = true := by decide +kernel
theorem Lx.col {c : Col} {w : List Int} {ts : List Tok} (hf : freeM c.1 = true) (ht : inB c.2.1 1 4 = true) (h : Lx w ts) : Lx (colBy c ++ w) (colToks c ++ ts) := by
 unfold colBy colToks
 simp only [List.append_assoc, List.cons_append, List.nil_append]
 refine Lx.name' (free_name hf) (ends_sp _) (Lx.blank blank_sp ?_)
 cases c.2.2 with
 | true =>
  simp only [cond_true, List.cons_append, List.nil_append]
  exact Lx.name' (tyAt_name _ ht) (ends_sp _) (Lx.blank blank_sp (Lx.name' null_name.1 (ends_semi _) h.semi))
 | false =>
  simp only [cond_false, List.nil_append]
  exact Lx.name' (tyAt_name _ ht) (ends_semi _) h.semi
theorem Lx.cols {w : List Int} {ts : List Tok} (h : Lx w ts) : ∀ (cs : List Col), (∀ c ∈ cs, freeM c.1 = true ∧ inB c.2.1 1 4 = true) → Lx (cs.flatMap colBy ++ w) (cs.flatMap colToks ++ ts)
 | [], _ => h
 | c :: cs, hc => by
  rw [List.flatMap_cons, List.flatMap_cons, List.append_assoc, List.append_assoc]
  exact Lx.col (hc c List.mem_cons_self).1 (hc c List.mem_cons_self).2 (Lx.cols h cs fun x hx => hc x (List.mem_cons_of_mem _ hx))
theorem Lx.parts {cs : List Col} (hn : ∀ c ∈ cs, freeM c.1 = true) {w : List Int} {ts : List Tok} (h : Lx w ts) {ps : List By} (hp : partsM cs.length ps = true) : Lx (bytesOf (partTx cs ps) ++ w) (partsToks cs ps ++ ts) := by
 have pin := partsM_in hp
 have ll := partsM_len hp
 have e1 : bytesOf (⟨#[32, 100, 101, 115, 99]⟩ : ByteArray) = 32 :: bytesOf wDesc := by decide +kernel
 have e2 : bytesOf (⟨#[44, 32]⟩ : ByteArray) = [44, 32] := by decide +kernel
 have e3 : bytesOf (⟨#[59, 32]⟩ : ByteArray) = [59, 32] := by decide +kernel
 have one : ∀ p ∈ ps, ∀ {c : Int} {w : List Int} {ts : List Tok}, endsN (c :: w) → Lx (c :: w) ts → Lx (bytesOf (partOne cs p) ++ c :: w) (partToks cs p ++ ts) := fun p hp c w ts he h => by
  have nm := free_name (hn _ (at_mem (z := (ByteArray.empty, (0 : Int), false)) (pin p hp).1 (pin p hp).2))
  unfold partOne partToks
  cases p.2 with
  | true =>
   simp only [cond_true, bytes_app, e1, List.append_assoc, List.cons_append, List.nil_append]
   exact Lx.name' nm (ends_sp _) (Lx.blank blank_sp (Lx.name' null_name.2.1 he h))
  | false =>
   simp only [cond_false, List.cons_append, List.nil_append]
   exact Lx.name' nm he h
 match ps, one, ll with
 | [p], one, _ =>
  unfold partTx
  rw [bytes_app, e3, partsToks, List.append_assoc, List.append_assoc]
  exact one p List.mem_cons_self (ends_semi _) h.semi
 | [p, q], one, _ =>
  unfold partTx
  rw [bytes_app, bytes_app, bytes_app, e2, e3, partsToks, partsToks]
  simp only [List.append_assoc, List.cons_append, List.nil_append]
  exact one p List.mem_cons_self (ends_comma _) (Lx.mark (c := 44) (by decide) (by decide) (by decide) (Lx.blank blank_sp (one q (List.mem_cons_of_mem _ List.mem_cons_self) (ends_semi _) h.semi)))
 | [], _, l => exact absurd l.1 (by simp)
 | _ :: _ :: _ :: _, _, l => exact absurd l.2 (by simp only [List.length_cons]; omega)
def idxBy (cs : List Col) (x : Ix) : List Int := bytesOf (bif x.2.1 then wUnique else wIndex) ++ 32 :: (bytesOf x.1 ++ 32 :: bytesOf (partTx cs x.2.2))
theorem idxS_bytes (cs : List Col) (s : ByteArray) (x : Ix) : bytesOf (idxS cs s x) = bytesOf s ++ idxBy cs x := by
 have e1 : bytesOf (⟨#[32]⟩ : ByteArray) = [32] := by decide +kernel
 have e2 : bytesOf (⟨#[117, 110, 105, 113, 117, 101, 32]⟩ : ByteArray) = bytesOf wUnique ++ [32] := by decide +kernel
 have e3 : bytesOf (⟨#[105, 110, 100, 101, 120, 32]⟩ : ByteArray) = bytesOf wIndex ++ [32] := by decide +kernel
 unfold idxS idxBy
 cases x.2.1 <;> simp only [cond_true, cond_false, bytes_app, e1, e2, e3] <;> simp
theorem Lx.idxs {cs : List Col} (hn : ∀ c ∈ cs, freeM c.1 = true) {w : List Int} {ts : List Tok} (h : Lx w ts) : ∀ (xs : List Ix), (∀ x ∈ xs, freeM x.1 = true ∧ partsM cs.length x.2.2 = true) → Lx (xs.flatMap (idxBy cs) ++ w) (xs.flatMap (idxToks cs) ++ ts)
 | [], _ => h
 | x :: xs, hx => by
  rw [List.flatMap_cons, List.flatMap_cons, List.append_assoc, List.append_assoc]
  have ih := Lx.idxs hn h xs fun y hy => hx y (List.mem_cons_of_mem _ hy)
  have q := hx x List.mem_cons_self
  unfold idxBy idxToks
  simp only [List.append_assoc, List.cons_append]
  have un : nameM (bif x.2.1 then wUnique else wIndex).size 0 (bytesOf (bif x.2.1 then wUnique else wIndex)) = true := by
   cases x.2.1
   ·exact null_name.2.2.2.2.2
   ·exact null_name.2.2.2.2.1
  exact Lx.name' un (ends_sp _) (Lx.blank blank_sp (Lx.name' (free_name q.1) (ends_sp _) (Lx.blank blank_sp (Lx.parts hn ih q.2))))
theorem Lx.table {x : Df} (g : goodM x) {w : List Int} {ts : List Tok} (h : Lx w ts) : Lx (bytesOf (defTx x) ++ w) (defToks x ++ ts) := by
 have n := g.names
 have t := g.types
 obtain ⟨p1, p2⟩ := g.parts
 have e1 : bytesOf (⟨#[116, 97, 98, 108, 101, 32]⟩ : ByteArray) = bytesOf wTable ++ [32] := by decide +kernel
 have e2 : bytesOf (⟨#[32, 123, 32]⟩ : ByteArray) = [32, 123, 32] := by decide +kernel
 have e3 : bytesOf (⟨#[112, 114, 105, 109, 97, 114, 121, 32]⟩ : ByteArray) = bytesOf wPrimary ++ [32] := by decide +kernel
 have e4 : bytesOf (⟨#[125]⟩ : ByteArray) = [125] := by decide +kernel
 have e : defTx x = restTx x (x.2.1.foldl colS (headTx x)) := by unfold defTx; rw [decide_eq_true (checkM_iff.2 g)]; rfl
 rw [e]
 unfold restTx headTx defToks
 rw [bytes_app, foldl_bytes _ _ (idxS_bytes x.2.1), bytes_app, bytes_app, foldl_bytes _ _ colS_bytes, bytes_app, bytes_app, e1, e2, e3, e4]
 simp only [List.append_assoc, List.cons_append, List.nil_append]
 refine Lx.name' null_name.2.2.1 (ends_sp _) (Lx.blank blank_sp (Lx.name' (free_name n.1) (ends_sp _) (Lx.blank blank_sp (Lx.mark (c := 123) (by decide) (by decide) (by decide) (Lx.blank blank_sp ?_)))))
 refine Lx.cols (Lx.name' null_name.2.2.2.1 (ends_sp _) (Lx.blank blank_sp (Lx.parts n.2.1 (Lx.idxs n.2.1 (Lx.mark (c := 125) (by decide) (by decide) (by decide) h) _ fun y hy => ⟨n.2.2 y hy, p2 y hy⟩) p1))) _ fun c hc => ⟨n.2.1 c hc, t.1 c hc⟩
theorem Lx.all : ∀ (l : List Df), (∀ x ∈ l, goodM x) → Lx (bytesOf (defsTx l)) (allToks l) := by
 intro l h
 have e : bytesOf (defsTx l) = l.flatMap fun x => bytesOf (defTx x) ++ [10] := by
  unfold defsTx
  rw [foldl_bytes defsS (fun x => bytesOf (defTx x) ++ [10])]
  ·have : bytesOf (⟨#[]⟩ : ByteArray) = [] := by decide +kernel
   rw [this, List.nil_append]
  ·intro s x
   have e10 : bytesOf (⟨#[10]⟩ : ByteArray) = [10] := by decide +kernel
   unfold defsS
   rw [bytes_app, bytes_app, e10]
 rw [e]
 clear e
 induction l with
 | nil => exact Lx.nil
 | cons x l ih =>
  rw [List.flatMap_cons, List.append_assoc]
  have ihl := ih fun y hy => h y (List.mem_cons_of_mem _ hy)
  have := Lx.table (h x List.mem_cons_self) (Lx.blank (c := 10) (by decide) ihl)
  simpa [allToks] using this
theorem laws_eqDefS.self {d : Nat} (hd : 6 ≤ d) {l : List Df} (hl : l.length ≤ 140737488351232) (hx : ∀ x ∈ l, dfFit 140737488351232 x) : laws_eqDefS.f d (l, l) = some true := by
 obtain ⟨d, rfl, _⟩ := dep hd
 rw [laws_eqDefS.t_eq]
 refine Tells.eq ?_
 dsimp only [laws_eqDefS.m]
 refine tf (by simp) ?_
 refine loopE (laws_eqDefS.S0 d) l.length (fun i => (l, l, i)) (fun _ r => r = true) (by omega) (fun L => ?_) fun L i hi ih => ?_
 ·dsimp only [laws_eqDefS.S0, laws_eqDefS.s0]
  exact tn (by omega) (tl rfl)
 ·dsimp only [laws_eqDefS.S0, laws_eqDefS.s0]
  refine tp (by omega) (ti hi (ti hi ?_))
  rw [getD_in hi, wrap_succ (by omega)]
  exact tc (laws_eqDef.self (by omega) (hx _ (List.getElem_mem hi))) (tf rfl ih)
theorem dfFit_w {k : Nat} {x : Df} (h : dfW x ≤ k) : dfFit k x := by
 unfold dfW at h
 refine ⟨by omega, ⟨by omega, fun y hy => ?_⟩, by omega, by omega, fun y hy => ?_⟩
 ·have h : y.1.size ≤ wSum (fun y : Col => y.1.size) x.2.1 := mem_wSum (w := fun y : Col => y.1.size) hy
  omega
 ·have h : y.1.size + y.2.2.length ≤ wSum (fun y : Ix => y.1.size + y.2.2.length) x.2.2.2 := mem_wSum (w := fun y : Ix => y.1.size + y.2.2.length) hy
  omega
theorem dfs_fit {l : List Df} (h : okV (.row SDf) l) : l.length ≤ 140737488351232 ∧ ∀ x ∈ l, dfFit 140737488351232 x :=
 ⟨okRow_len h, fun x hx => by have q := h.2 x hx; exact df_fit (x := x) q.1 q.2.1 q.2.2.1 q.2.2.2⟩
theorem laws_szDefS.sp {d : Nat} (hd : 5 ≤ d) {l : List Df} {left : Int} (h0 : 0 ≤ left) (h1 : left ≤ 1048576) (hl : l.length ≤ 140737488351232) (hx : ∀ x ∈ l, dfFit 140737488351232 x) :
  Tells (laws_szDefS.f d (l, left)) fun r => r ≤ left ∧ (0 ≤ r → (l.length : Int) + wSum dfW l ≤ left - r) := by
 obtain ⟨d, rfl, _⟩ := dep hd
 rw [laws_szDefS.t_eq]
 dsimp only [laws_szDefS.m]
 rw [wrap_id (by omega) (by omega)]
 refine tif (fun h => tl ⟨by omega, by omega⟩) fun h => ?_
 refine (loopSz (w := dfW) (laws_szDefS.S0 d) (by omega) hl (fun L st => ?_) fun L st i Q hi h0 h1 hq ih => ?_).mono fun r hr => ⟨by omega, fun h => by have := hr.2 h; omega⟩
 ·dsimp only [laws_szDefS.S0, laws_szDefS.s0]
  exact tn (by omega) (tl rfl)
 ·dsimp only [laws_szDefS.S0, laws_szDefS.s0]
  refine tp (by omega) (ti hi ?_)
  rw [getD_in hi, wrap_succ (by omega)]
  refine tb (laws_szDef.sp (by omega) h0 (by omega) (hx _ (List.getElem_mem hi))) fun a ha => tif (fun _ => tl hq) fun h => ih a (by omega) (ha.2 (by omega)).2
theorem dfs_small {l : List Df} {n : Int} (h : (l.length : Int) + wSum dfW l ≤ 1048576 - n) (hn : 0 ≤ n) : l.length ≤ 1048576 ∧ ∀ x ∈ l, dfFit 1048576 x := by
 refine ⟨by omega, fun x hx => dfFit_w ?_⟩
 have : dfW x ≤ wSum dfW l := mem_wSum (w := dfW) hx
 omega
theorem laws_toDefS.sp {d : Nat} (hd : 6 ≤ d) {l : List Df} (hl : l.length ≤ 1048576) (hx : ∀ x ∈ l, dfFit 1048576 x) : laws_toDefS.f d l = some l := by
 obtain ⟨d, rfl, _⟩ := dep hd
 rw [laws_toDefS.t_eq]
 dsimp only [laws_toDefS.m]
 refine Tells.eq (tt (by simp; omega) ?_)
 have := loopFill (laws_toDefS.S0 d) l id (List.replicate (Int.toNat (l.length : Int)) (ByteArray.empty, ([] : List (ByteArray × Int × Bool)), ([] : List (Int × Bool)), ([] : List (ByteArray × Bool × (List (Int × Bool)))))) (by simp) (by omega) (fun L st h => ?_) fun L st i Q hi h ih => ?_
 ·simpa using this
 ·dsimp only [laws_toDefS.S0, laws_toDefS.s0]
  exact tn (by omega) (tl rfl)
 ·dsimp only [laws_toDefS.S0, laws_toDefS.s0]
  refine tp (by omega) (ti hi ?_)
  rw [getD_in hi, wrap_succ (by omega)]
  refine tc (laws_toDef.sp (by omega) (hx _ (List.getElem_mem hi))) (ti (by omega) ?_)
  simpa [show i < st.length by omega] using ih
def defAt (s : List Df) (t : Int) : Df := List.getD s (Int.toNat t) (ByteArray.empty, [], [], [])
def thereM (s : List Df) (t i : Int) : Bool := decide (firstM s = -1) && (inB t 0 ((s.length : Int) - 1) && inB i (-1) (((defAt s t).2.2.2.length : Int) - 1))
theorem there_iff {s : List Df} {t i : Int} : thereM s t i = true ↔ firstM s = -1 ∧ (0 ≤ t ∧ t < s.length) ∧ (-1 ≤ i ∧ i < (defAt s t).2.2.2.length) := by
 unfold thereM
 rw [Bool.and_eq_true, Bool.and_eq_true, decide_eq_true_eq, inB_iff, inB_iff]
 omega
theorem defAt_mem {s : List Df} {t : Int} (h0 : 0 ≤ t) (h1 : t < s.length) : defAt s t ∈ s := at_mem h0 h1
theorem tand {a b : Int} {α : Type} {x y : Option α} {Q : α → Prop} (h0 : 0 ≤ a) (h1 : a < b) (k : Tells x Q) : Tells (bif decide (0 ≤ a) && decide (a < b) then x else y) Q :=
 tt (by rw [decide_eq_true h0, decide_eq_true h1]; rfl) k
theorem impl_hasIndex.sp {d : Nat} (hd : 7 ≤ d) {s : List Df} (hl : s.length ≤ 140737488351232) (hx : ∀ x ∈ s, dfFit 140737488351232 x) (t i : Int) : impl_hasIndex.f d (s, t, i) = some (thereM s t i) := by
 obtain ⟨d, rfl, _⟩ := dep hd
 rw [impl_hasIndex.t_eq]
 dsimp only [impl_hasIndex.m]
 refine Tells.eq (tc (impl_FirstBad.sp (by omega) hl hx) (teq (fun e => ?_) fun e => ?_))
 ·rw [wrap_id (by omega) (by omega)]
  refine tc (impl_in.sp (by omega) _ _ _) (tbif (fun c => ?_) fun c => tl ?_)
  ·have q := inB_iff.1 c
   have m := hx _ (defAt_mem (s := s) (t := t) (by omega) (by omega))
   refine tand (by omega) (by omega) ?_
   have w : IntKind.wrap IntKind.i64 (((defAt s t).2.2.2.length : Int) - 1) = ((defAt s t).2.2.2.length : Int) - 1 := wrap_id (by omega) (by have := m.2.2.2.1; omega)
   have r := impl_in.sp (d := d) (by omega) i (-1) (((defAt s t).2.2.2.length : Int) - 1)
   rw [← w] at r
   refine tc r (tl ?_)
   rw [w]; unfold thereM; rw [decide_eq_true e, c]; rfl
  ·unfold thereM; rw [c]; simp
 ·refine tl ?_
  unfold thereM; rw [decide_eq_false e]; rfl
theorem spec_l11There.sp {d : Nat} (hd : 8 ≤ d) {s : List Df} (hl : s.length ≤ 140737488351232) (hx : ∀ x ∈ s, dfFit 140737488351232 x) (t i : Int) : spec_l11There.f d (s, t, i) = some (thereM s t i) := by
 obtain ⟨d, rfl, _⟩ := dep hd
 rw [spec_l11There.t_eq]
 dsimp only [spec_l11There.m]
 refine Tells.eq (tc (spec_FirstBad.sp (by omega) hl hx) (teq (fun e => ?_) fun e => ?_))
 ·rw [wrap_id (by omega) (by omega)]
  refine tc (spec_l1In.sp (by omega) _ _ _) (tbif (fun c => ?_) fun c => tl ?_)
  ·have q := inB_iff.1 c
   have m := hx _ (defAt_mem (s := s) (t := t) (by omega) (by omega))
   refine tand (by omega) (by omega) ?_
   have w : IntKind.wrap IntKind.i64 (((defAt s t).2.2.2.length : Int) - 1) = ((defAt s t).2.2.2.length : Int) - 1 := wrap_id (by omega) (by have := m.2.2.2.1; omega)
   have r := spec_l1In.sp (d := d) (by omega) i (-1) (((defAt s t).2.2.2.length : Int) - 1)
   rw [← w] at r
   refine tc r (tl ?_)
   rw [w]; unfold thereM; rw [decide_eq_true e, c]; rfl
  ·unfold thereM; rw [c]; simp
 ·refine tl ?_
  unfold thereM; rw [decide_eq_false e]; rfl
def headM (s : List Df) (t i : Int) : List Int := bif thereM s t i then [IntKind.wrap .u8 (IntKind.wrap .i64 (t + 1)), IntKind.wrap .u8 (IntKind.wrap .i64 (i + 1))] else []
theorem headM_len (s : List Df) (t i : Int) : (headM s t i).length ≤ 2 := by
 unfold headM; cases thereM s t i <;> simp
theorem impl_HeadOf.sp {d : Nat} (hd : 8 ≤ d) {s : List Df} (hl : s.length ≤ 140737488351232) (hx : ∀ x ∈ s, dfFit 140737488351232 x) (t i : Int) : impl_HeadOf.f d (s, t, i) = some (headM s t i) := by
 obtain ⟨d, rfl, _⟩ := dep hd
 rw [impl_HeadOf.t_eq]
 dsimp only [impl_HeadOf.m]
 refine Tells.eq (tc (impl_hasIndex.sp (by omega) hl hx t i) ?_)
 unfold headM
 cases thereM s t i
 ·exact tt rfl (tl rfl)
 ·exact tf rfl (tl rfl)
theorem spec_HeadOf.sp {d : Nat} (hd : 9 ≤ d) {s : List Df} (hl : s.length ≤ 140737488351232) (hx : ∀ x ∈ s, dfFit 140737488351232 x) (t i : Int) : spec_HeadOf.f d (s, t, i) = some (headM s t i) := by
 obtain ⟨d, rfl, _⟩ := dep hd
 rw [spec_HeadOf.t_eq]
 dsimp only [spec_HeadOf.m]
 refine Tells.eq (tc (spec_l11There.sp (by omega) hl hx t i) ?_)
 unfold headM
 cases thereM s t i
 ·exact tt rfl (tl rfl)
 ·exact tf rfl (tl rfl)
open Go Go.Proofs
theorem fdiv8 (x : Int) : Int.fdiv x (2 ^ (min (Int.toNat (8 : Int)) (IntKind.bits IntKind.i64))) = x / 256 := by
 rw [Int.fdiv_eq_ediv_of_nonneg _ (by decide)]; rfl
theorem impl_bytesOf.loop {d : Nat} : ∀ (j k : Nat) (x : Int) (n : Nat), j < k → x < 256 ^ j → n + j ≤ 100 → Tells (iter (impl_bytesOf.S0 d) k (x, (n : Int))) (· = ((n + (beM j x).length : Nat) : Int)) := by
 intro j
 induction j with
 | zero =>
  intro k x n hk hx _
  obtain ⟨k, rfl⟩ : ∃ k', k = k' + 1 := ⟨k - 1, by omega⟩
  rw [iter]
  dsimp only [impl_bytesOf.S0, impl_bytesOf.s0]
  rw [Int.pow_zero] at hx
  exact tn (by omega) (tl rfl)
 | succ j ih =>
  intro k x n hk hx hs
  obtain ⟨k, rfl⟩ : ∃ k', k = k' + 1 := ⟨k - 1, by omega⟩
  rw [iter]
  dsimp only [impl_bytesOf.S0, impl_bytesOf.s0]
  rw [beM, fdiv8, wrap_succ (by omega)]
  refine tif (fun h => tp (by decide) ?_) fun h => tl (by rw [if_neg h]; rfl)
  rw [if_pos h]
  refine (ih k (x / 256) (n + 1) (by omega) ?_ (by omega)).mono fun r hr => by rw [hr, List.length_append, List.length_singleton]; omega
  rw [Int.pow_succ] at hx
  exact Int.ediv_lt_of_lt_mul (by omega) hx
theorem impl_bytesOf.sp {d : Nat} (hd : 1 ≤ d) {x : Int} (hx : x < 256 ^ 7) : impl_bytesOf.f d x = some ((beM 7 x).length : Int) := by
 obtain ⟨d, rfl, _⟩ := dep hd
 rw [impl_bytesOf.t_eq]
 dsimp only [impl_bytesOf.m]
 have := (impl_bytesOf.loop (d := d) 7 rnds x 0 (rnds_gt (by decide)) hx (by decide)).eq
 rw [Nat.zero_add] at this
 exact this
theorem impl_addBytes.loop {d : Nat} (x c : Int) (f : Int → Int) (hf : ∀ b, 0 ≤ b → b ≤ 255 → Go.bits .xor .u8 b c = f b) : ∀ (n k : Nat) (s : List Int), n < k → n ≤ 7 → s.length + n < 140737488355328 →
  Tells (iter (impl_addBytes.S0 d) k (x, c, (n : Int) - 1, s)) (· = s ++ (digM x n).map f) := by
 intro n
 induction n with
 | zero =>
  intro k s hk _ _
  obtain ⟨k, rfl⟩ : ∃ k', k = k' + 1 := ⟨k - 1, by omega⟩
  rw [iter]
  dsimp only [impl_addBytes.S0, impl_addBytes.s0]
  exact tn (by omega) (tl (by simp [digM]))
 | succ n ih =>
  intro k s hk hn hs
  obtain ⟨k, rfl⟩ : ∃ k', k = k' + 1 := ⟨k - 1, by omega⟩
  rw [iter]
  dsimp only [impl_addBytes.S0, impl_addBytes.s0]
  have e : ((n + 1 : Nat) : Int) - 1 = (n : Int) := by omega
  have w : IntKind.wrap IntKind.i64 ((8 : Int) * (n : Int)) = (8 : Int) * (n : Int) := wrap_id (by omega) (by omega)
  have sh : Int.fdiv x (2 ^ (min (Int.toNat ((8 : Int) * (n : Int))) (IntKind.bits IntKind.i64))) = x / 256 ^ n := shr_at x n (by omega)
  have xo : IntKind.wrap IntKind.u8 ((BitVec.ofInt (IntKind.bits IntKind.u8) (x / 256 ^ n % 256) ^^^ BitVec.ofInt (IntKind.bits IntKind.u8) c).toNat : Int) = f (x / 256 ^ n % 256) := hf _ (by omega) (by omega)
  rw [e, w, sh, IntKind.wrap_u8 (x / 256 ^ n), xo, wrap_id (x := (n : Int) - 1) (by omega) (by omega)]
  refine tp (by omega) (tp (by omega) (tp (by simp only [List.length_singleton]; omega) ?_))
  refine (ih k (s ++ [f (x / 256 ^ n % 256)]) (by omega) (by omega) ?_).mono fun r hr => ?_
  ·rw [List.length_append, List.length_singleton]; omega
  ·rw [hr]; simp [digM]
theorem impl_addBytes.sp {d : Nat} (hd : 1 ≤ d) (x c : Int) (f : Int → Int) (hf : ∀ b, 0 ≤ b → b ≤ 255 → Go.bits .xor .u8 b c = f b) {n : Nat} {l : List Int} (hn : n ≤ 7) (hs : l.length + n < 140737488355328) : impl_addBytes.f d (l, x, (n : Int), c) = some (l ++ (digM x n).map f) := by
 obtain ⟨d, rfl, _⟩ := dep hd
 rw [impl_addBytes.t_eq]
 dsimp only [impl_addBytes.m]
 rw [wrap_id (by omega) (by omega)]
 exact (impl_addBytes.loop x c f hf n rnds l (rnds_gt (by omega)) hn hs).eq
theorem clampV_mx (n : Int) : (bif decide ((bif decide ((1000000000000000 : Int) < n) then (1000000000000000 : Int) else n) > (-1000000000000000 : Int)) then (bif decide ((1000000000000000 : Int) < n) then (1000000000000000 : Int) else n) else (-1000000000000000 : Int)) = clampV n := by
 unfold clampV
 by_cases a : (1000000000000000 : Int) < n
 ·rw [decide_eq_true a, if_pos a]; rfl
 ·rw [decide_eq_false a, if_neg a, cond_false]
  by_cases b : n > (-1000000000000000 : Int)
  ·rw [decide_eq_true b, cond_true, if_neg (by omega)]
  ·rw [decide_eq_false b, cond_false]; split <;> omega
theorem clampF_mx (n : Int) : (bif decide ((bif decide ((2147483647 : Int) < n) then (2147483647 : Int) else n) > (-2147483648 : Int)) then (bif decide ((2147483647 : Int) < n) then (2147483647 : Int) else n) else (-2147483648 : Int)) = clampF n := by
 unfold clampF
 by_cases a : (2147483647 : Int) < n
 ·rw [decide_eq_true a, if_pos a]; rfl
 ·rw [decide_eq_false a, if_neg a, cond_false]
  by_cases b : n > (-2147483648 : Int)
  ·rw [decide_eq_true b, cond_true, if_neg (by omega)]
  ·rw [decide_eq_false b, cond_false]; split <;> omega
theorem clampF_bd (n : Int) : -2147483648 ≤ clampF n ∧ clampF n ≤ 2147483647 := by unfold clampF; split <;> (try split) <;> omega
theorem impl_clamp.var {d : Nat} (hd : 1 ≤ d) (n : Int) : impl_clamp.f d (n, (-1000000000000000 : Int), (1000000000000000 : Int)) = some (clampV n) := by
 obtain ⟨d, rfl, _⟩ := dep hd
 rw [impl_clamp.t_eq]
 dsimp only [impl_clamp.m]
 rw [clampV_mx]
theorem impl_clamp.fix {d : Nat} (hd : 1 ≤ d) (n : Int) : impl_clamp.f d (n, (-2147483648 : Int), (2147483647 : Int)) = some (clampF n) := by
 obtain ⟨d, rfl, _⟩ := dep hd
 rw [impl_clamp.t_eq]
 dsimp only [impl_clamp.m]
 rw [clampF_mx]
theorem impl_addVar.sp {d : Nat} (hd : 2 ≤ d) {l : List Int} {n : Int} (hs : l.length ≤ 100000000000) : impl_addVar.f d (l, n) = some (l ++ varM n) := by
 obtain ⟨d, rfl, _⟩ := dep hd
 rw [impl_addVar.t_eq]
 dsimp only [impl_addVar.m]
 have hb := clampV_bd n
 have n1 := beM_len 7 (clampV n)
 have n2 := beM_len 7 (-1 - clampV n)
 unfold varM
 refine Tells.eq (tc (impl_clamp.var (by omega) n) (tif (fun h => ?_) fun h => ?_))
 ·rw [if_pos h]
  refine tc (impl_bytesOf.sp (by omega) (by omega)) (tp (by simp only [List.length_singleton]; omega) ?_)
  rw [wrap_id (by omega) (by omega), u8_id (by omega) (by omega)]
  refine tc (impl_addBytes.sp (by omega) (clampV n) 0 (fun b => b) flip_0 n1 (by simp only [List.length_append, List.length_singleton]; omega)) (tl ?_)
  rw [← beM_dig]
  simp
 ·rw [if_neg h, wrap_id (x := (-1 : Int) - clampV n) (by omega) (by omega)]
  refine tc (impl_bytesOf.sp (by omega) (by omega)) (tp (by simp only [List.length_singleton]; omega) ?_)
  rw [wrap_id (by omega) (by omega), u8_id (by omega) (by omega)]
  refine tc (impl_addBytes.sp (by omega) (-1 - clampV n) 255 (fun b => 255 - b) flip_r n2 (by simp only [List.length_append, List.length_singleton]; omega)) (tl ?_)
  rw [← beM_dig]
  simp
theorem impl_addFix.sp {d : Nat} (hd : 2 ≤ d) {l : List Int} {n : Int} (hs : l.length ≤ 100000000000) : impl_addFix.f d (l, n) = some (l ++ fixM n) := by
 obtain ⟨d, rfl, _⟩ := dep hd
 rw [impl_addFix.t_eq]
 dsimp only [impl_addFix.m]
 have hb := clampF_bd n
 refine Tells.eq (tc (impl_clamp.fix (by omega) n) ?_)
 rw [wrap_id (by omega) (by omega)]
 refine tc (impl_addBytes.sp (n := 4) (by omega) (clampF n + 2147483648) 0 (fun b => b) flip_0 (by decide) (by omega)) (tl ?_)
 unfold fixM; simp
theorem spec_l4Bytes.loop {d : Nat} : ∀ (j k : Nat) (x : Int) (s : List Int), j < k → x < 256 ^ j → s.length + j ≤ 100 → Tells (iter (spec_l4Bytes.S0 d) k (x, s)) (· = beM j x ++ s) := by
 intro j
 induction j with
 | zero =>
  intro k x n hk hx _
  obtain ⟨k, rfl⟩ : ∃ k', k = k' + 1 := ⟨k - 1, by omega⟩
  rw [iter]
  dsimp only [spec_l4Bytes.S0, spec_l4Bytes.s0]
  rw [Int.pow_zero] at hx
  exact tn (by omega) (tl rfl)
 | succ j ih =>
  intro k x s hk hx hs
  obtain ⟨k, rfl⟩ : ∃ k', k = k' + 1 := ⟨k - 1, by omega⟩
  rw [iter]
  dsimp only [spec_l4Bytes.S0, spec_l4Bytes.s0]
  rw [beM, fdiv8]
  refine tif (fun h => tp (by simp only [List.length_singleton]; omega) (tp (by decide) ?_)) fun h => tl (by rw [if_neg h]; rfl)
  rw [if_pos h, IntKind.wrap_u8]
  refine (ih k (x / 256) ([x % 256] ++ s) (by omega) ?_ (by simp only [List.length_append, List.length_singleton]; omega)).mono fun r hr => by rw [hr, List.append_assoc]
  rw [Int.pow_succ] at hx
  exact Int.ediv_lt_of_lt_mul (by omega) hx
theorem spec_l4Bytes.sp {d : Nat} (hd : 1 ≤ d) {x : Int} (hx : x < 256 ^ 7) : spec_l4Bytes.f d x = some (beM 7 x) := by
 obtain ⟨d, rfl, _⟩ := dep hd
 rw [spec_l4Bytes.t_eq]
 dsimp only [spec_l4Bytes.m]
 have := (spec_l4Bytes.loop (d := d) 7 rnds x [] (rnds_gt (by decide)) hx (by decide)).eq
 rw [List.append_nil] at this
 exact this
theorem flip_u8 {b : Int} (h0 : 0 ≤ b) (h1 : b ≤ 255) : IntKind.wrap IntKind.u8 ((BitVec.ofInt (IntKind.bits IntKind.u8) (if IntKind.signed IntKind.u8 then -1 else IntKind.max IntKind.u8) ^^^ BitVec.ofInt (IntKind.bits IntKind.u8) b).toNat : Int) = 255 - b := flip_l b h0 h1
theorem set_app {a b : List Int} {x y : Int} : (a ++ x :: b).set a.length y = (a ++ [y]) ++ b := by simp
theorem at_app {a b : List Int} {x z : Int} : List.getD (a ++ x :: b) (Int.toNat (a.length : Int)) z = x := getD_at (by simp)
theorem impl_Flip.loop {d : Nat} : ∀ (b a : List Int) (k : Nat), b.length < k → (∀ x ∈ b, 0 ≤ x ∧ x ≤ 255) → a.length + b.length ≤ 140737488355328 → Tells (iter (impl_Flip.S0 d) k ((a.length : Int), a ++ b)) (· = a ++ b.map fun x => 255 - x)
 | [], a, k, hk, _, hs => by
  obtain ⟨k, rfl⟩ : ∃ k', k = k' + 1 := ⟨k - 1, by omega⟩
  rw [iter]
  dsimp only [impl_Flip.S0, impl_Flip.s0]
  exact tn (by simp) (tl rfl)
 | x :: b, a, k, hk, hb, hs => by
  obtain ⟨k, rfl⟩ : ∃ k', k = k' + 1 := ⟨k - 1, by omega⟩
  rw [List.length_cons] at hk hs
  rw [iter]
  dsimp only [impl_Flip.S0, impl_Flip.s0]
  have h := hb x List.mem_cons_self
  have hi : a.length < (a ++ x :: b).length := by simp
  rw [at_app, flip_u8 h.1 h.2, wrap_succ (by omega), Int.toNat_natCast, set_app]
  refine tp (by omega) (ti hi (ti hi ?_))
  have ih := impl_Flip.loop (d := d) b (a ++ [255 - x]) k (by omega) (fun y hy => hb y (List.mem_cons_of_mem _ hy)) (by simp only [List.length_append, List.length_singleton]; omega)
  rw [List.length_append, List.length_singleton] at ih
  exact ih.mono fun r hr => by rw [hr]; simp
theorem impl_Flip.sp {d : Nat} (hd : 2 ≤ d) {a b : List Int} (hb : ∀ x ∈ b, 0 ≤ x ∧ x ≤ 255) (hs : a.length + b.length ≤ 100000000000) : impl_Flip.f d (a ++ b, (a.length : Int)) = some (a ++ b.map fun x => 255 - x) := by
 obtain ⟨d, rfl, _⟩ := dep hd
 rw [impl_Flip.t_eq]
 dsimp only [impl_Flip.m]
 refine Tells.eq (tc (impl_copyBytes.sp (by omega) (by rw [List.length_append]; omega)) ?_)
 rw [decide_eq_false (by omega), cond_false]
 exact impl_Flip.loop b a rnds (rnds_gt (by omega)) hb (by omega)
theorem spec_Flip.loop {d : Nat} (n : Nat) : ∀ (b a : List Int) (k : Nat), b.length < k → (∀ x ∈ b, 0 ≤ x ∧ x ≤ 255) → a.length + b.length ≤ 140737488355328 → n ≤ a.length → Tells (iter (spec_Flip.S0 d) k ((n : Int), (a.length : Int), a ++ b)) (· = a ++ b.map fun x => 255 - x)
 | [], a, k, hk, _, hs, _ => by
  obtain ⟨k, rfl⟩ : ∃ k', k = k' + 1 := ⟨k - 1, by omega⟩
  rw [iter]
  dsimp only [spec_Flip.S0, spec_Flip.s0]
  exact tn (by simp) (tl rfl)
 | x :: b, a, k, hk, hb, hs, hn => by
  obtain ⟨k, rfl⟩ : ∃ k', k = k' + 1 := ⟨k - 1, by omega⟩
  rw [List.length_cons] at hk hs
  rw [iter]
  dsimp only [spec_Flip.S0, spec_Flip.s0]
  have h := hb x List.mem_cons_self
  have hi : a.length < (a ++ x :: b).length := by simp
  rw [at_app, flip_u8 h.1 h.2, wrap_succ (by omega), Int.toNat_natCast, set_app]
  refine tp (by omega) (tp (by omega) (ti hi (ti hi ?_)))
  have ih := spec_Flip.loop (d := d) n b (a ++ [255 - x]) k (by omega) (fun y hy => hb y (List.mem_cons_of_mem _ hy)) (by simp only [List.length_append, List.length_singleton]; omega) (by simp only [List.length_append, List.length_singleton]; omega)
  rw [List.length_append, List.length_singleton] at ih
  exact ih.mono fun r hr => by rw [hr]; simp
theorem spec_Flip.ahead {d : Nat} (n : Nat) (b : List Int) (hn : n < b.length) (hs : b.length ≤ 140737488355328) (P : List Int → Prop) (hk : ∀ k, b.length < k + n → Tells (iter (spec_Flip.S0 d) k ((n : Int), (n : Int), b)) P) : ∀ (j i k : Nat), i + j = n → b.length < k + i → Tells (iter (spec_Flip.S0 d) k ((n : Int), (i : Int), b)) P
 | 0, i, k, e, h => by
  have : i = n := by omega
  subst this
  exact hk k (by omega)
 | j + 1, i, k, e, h => by
  obtain ⟨k, rfl⟩ : ∃ k', k = k' + 1 := ⟨k - 1, by omega⟩
  rw [iter]
  dsimp only [spec_Flip.S0, spec_Flip.s0]
  rw [wrap_succ (by omega)]
  exact tp (by omega) (tn (by omega) (spec_Flip.ahead n b hn hs P hk j (i + 1) k (by omega) (by omega)))
theorem spec_Flip.sp {d : Nat} (hd : 1 ≤ d) {a b : List Int} (hb : ∀ x ∈ b, 0 ≤ x ∧ x ≤ 255) (hs : a.length + b.length ≤ 100000000000) : spec_Flip.f d (a ++ b, (a.length : Int)) = some (a ++ b.map fun x => 255 - x) := by
 obtain ⟨d, rfl, _⟩ := dep hd
 rw [spec_Flip.t_eq]
 dsimp only [spec_Flip.m]
 refine Tells.eq (tp (by simp only [List.length_append, List.length_nil]; omega) ?_)
 rw [List.nil_append]
 cases b with
 | nil =>
  have loop : ∀ (j i k : Nat), i + j = a.length → j < k → Tells (iter (spec_Flip.S0 d) k ((a.length : Int), (i : Int), a)) (· = a) := by
   intro j
   induction j with
   | zero =>
    intro i k e hk
    obtain ⟨k, rfl⟩ : ∃ k', k = k' + 1 := ⟨k - 1, by omega⟩
    rw [iter]
    dsimp only [spec_Flip.S0, spec_Flip.s0]
    exact tn (by omega) (tl rfl)
   | succ j ih =>
    intro i k e hk
    obtain ⟨k, rfl⟩ : ∃ k', k = k' + 1 := ⟨k - 1, by omega⟩
    rw [iter]
    dsimp only [spec_Flip.S0, spec_Flip.s0]
    rw [wrap_succ (by omega)]
    exact tp (by omega) (tn (by omega) (ih (i + 1) k (by omega) (by omega)))
  rw [List.append_nil, List.map_nil, List.append_nil]
  exact loop a.length 0 rnds (by omega) (rnds_gt (by omega))
 | cons x b =>
  refine spec_Flip.ahead a.length (a ++ x :: b) (by simp) (by rw [List.length_append]; omega) _ (fun k h => ?_) a.length 0 rnds (by omega) (rnds_gt (by rw [List.length_append]; omega))
  exact spec_Flip.loop a.length (x :: b) a k (by rw [List.length_append] at h; omega) hb (by omega) (Nat.le_refl _)
open Go Go.Proofs
theorem spec_PutVar.sp {d : Nat} (hd : 2 ≤ d) {l : List Int} {n : Int} (hs : l.length ≤ 100000000000) : spec_PutVar.f d (l, n) = some (l ++ varM n) := by
 obtain ⟨d, rfl, _⟩ := dep hd
 rw [spec_PutVar.t_eq]
 dsimp only [spec_PutVar.m]
 have pos : ∀ v : Int, 0 ≤ v → v ≤ 1000000000000000 → clampV n = v → ∀ r, r = beM 7 v → (([] ++ l) ++ [IntKind.wrap IntKind.u8 (IntKind.wrap IntKind.i64 (128 + (r.length : Int)))]) ++ r = l ++ varM n := fun v h0 h1 e r hr => by
  have n1 := beM_len 7 v
  subst hr
  unfold varM
  rw [e, if_pos h0, wrap_id (by omega) (by omega), u8_id (by omega) (by omega)]
  simp
 have neg : ∀ v : Int, v < 0 → -1000000000000000 ≤ v → clampV n = v → ∀ r, r = beM 7 (-1 - v) → ∀ q, q = r.map (fun b => 255 - b) → (([] ++ l) ++ [IntKind.wrap IntKind.u8 (IntKind.wrap IntKind.i64 (127 - (r.length : Int)))]) ++ q = l ++ varM n := fun v h0 h1 e r hr q hq => by
  have n1 := beM_len 7 (-1 - v)
  subst hr hq
  unfold varM
  rw [e, if_neg (by omega), wrap_id (by omega) (by omega), u8_id (by omega) (by omega)]
  simp
 have flip : ∀ x : Int, spec_Flip.f d (beM 7 x, (0 : Int)) = some ((beM 7 x).map fun b => 255 - b) := fun x => by
  have n1 := beM_len 7 x
  have := spec_Flip.sp (d := d) (a := []) (by omega) (beM_bytes 7 x) (by simp only [List.length_nil]; omega)
  simpa using this
 refine Tells.eq (tif (fun h => tn (by decide) (tp (by decide) ?_)) fun h => tif (fun h2 => tn (by decide) ?_) fun h2 => tif (fun h3 => ?_) fun h3 => ?_)
 ·have n1 := beM_len 7 1000000000000000
  exact tc (spec_l4Bytes.sp (by omega) (by decide)) (tp (by simp; omega) (tp (by simp; omega) (tp (by simp; omega) (tl (pos _ (by decide) (by decide) (by unfold clampV; rw [if_pos h]) _ rfl)))))
 ·have n1 := beM_len 7 (-1 - (-1000000000000000))
  have n2 := beM_len 7 999999999999999
  exact tc (spec_l4Bytes.sp (x := -1 - (-1000000000000000)) (by omega) (by decide)) (tp (by simp; omega) (tp (by simp; omega) (tc (flip _) (tp (by simp; omega) (tl (neg _ (by decide) (by decide) (by unfold clampV; rw [if_neg h, if_pos h2]) _ rfl _ rfl))))))
 ·have n1 := beM_len 7 n
  exact tc (spec_l4Bytes.sp (by omega) (by omega)) (tp (by simp; omega) (tp (by simp; omega) (tp (by simp; omega) (tl (pos n h3 (by omega) (by unfold clampV; rw [if_neg h, if_neg h2]) _ rfl)))))
 ·have n1 := beM_len 7 (-1 - n)
  rw [wrap_id (x := (-1 : Int) - n) (by omega) (by omega)]
  exact tc (spec_l4Bytes.sp (by omega) (by omega)) (tp (by simp; omega) (tp (by simp; omega) (tc (flip _) (tp (by simp; omega) (tl (neg n (by omega) (by omega) (by unfold clampV; rw [if_neg h, if_neg h2]) _ rfl _ rfl))))))
theorem spec_PutFix.sp {d : Nat} (hd : 1 ≤ d) {l : List Int} {n : Int} (hs : l.length ≤ 100000000000) : spec_PutFix.f d (l, n) = some (l ++ fixM n) := by
 obtain ⟨d, rfl, _⟩ := dep hd
 rw [spec_PutFix.t_eq]
 dsimp only [spec_PutFix.m]
 have eq : ∀ v : Int, -2147483648 ≤ v → v ≤ 2147483647 → clampF n = v → ([] ++ l) ++ [IntKind.wrap IntKind.u8 (Int.fdiv (IntKind.wrap IntKind.i64 (v + 2147483648)) (2 ^ (min (Int.toNat (24 : Int)) (IntKind.bits IntKind.i64)))), IntKind.wrap IntKind.u8 (Int.fdiv (IntKind.wrap IntKind.i64 (v + 2147483648)) (2 ^ (min (Int.toNat (16 : Int)) (IntKind.bits IntKind.i64)))), IntKind.wrap IntKind.u8 (Int.fdiv (IntKind.wrap IntKind.i64 (v + 2147483648)) (2 ^ (min (Int.toNat (8 : Int)) (IntKind.bits IntKind.i64)))), IntKind.wrap IntKind.u8 (IntKind.wrap IntKind.i64 (v + 2147483648))] = l ++ fixM n := fun v h0 h1 e => by
  rw [wrap_id (by omega) (by omega), Int.fdiv_eq_ediv_of_nonneg _ (by decide), Int.fdiv_eq_ediv_of_nonneg _ (by decide), Int.fdiv_eq_ediv_of_nonneg _ (by decide)]
  unfold fixM
  rw [e]
  simp only [IntKind.wrap_u8, List.nil_append, digM]
  rw [show (256 : Int) ^ 0 = 1 from rfl, Int.ediv_one]
  rfl
 refine Tells.eq (tif (fun h => tn (by decide) ?_) fun h => tif (fun h2 => ?_) fun h2 => ?_)
 ·exact tp (by simp; omega) (tp (by decide) (tp (by decide) (tp (by decide) (tp (by simp; omega) (tl (eq _ (by decide) (by decide) (by unfold clampF; rw [if_pos h])))))))
 ·exact tp (by simp; omega) (tp (by decide) (tp (by decide) (tp (by decide) (tp (by simp; omega) (tl (eq _ (by decide) (by decide) (by unfold clampF; rw [if_neg h, if_pos h2])))))))
 ·exact tp (by simp; omega) (tp (by decide) (tp (by decide) (tp (by decide) (tp (by simp; omega) (tl (eq n (by omega) (by omega) (by unfold clampF; rw [if_neg h, if_neg h2])))))))
theorem impl_addEsc.sp {d : Nat} (hd : 1 ≤ d) {l : List Int} {s : ByteArray} (hl : l.length ≤ 10000000000) (hs : s.size ≤ 1000000000) : impl_addEsc.f d (l, s) = some (l ++ escM (bytesOf s)) := by
 obtain ⟨d, rfl, _⟩ := dep hd
 rw [impl_addEsc.t_eq]
 dsimp only [impl_addEsc.m]
 have sz := bytesOf_length s
 suffices g : Tells (iter (impl_addEsc.S0 d) rnds (s, (0 : Int), l)) (· = l ++ escM ((bytesOf s).drop 0)) by simpa using g.eq
 refine loop0 (σ := List Int) (impl_addEsc.S0 d) s.size (fun st i => (s, i, st)) (fun st i => st.length ≤ l.length + 2 * i) (fun st i r => r = st ++ escM ((bytesOf s).drop i)) l (by omega) (by omega) (fun L st h => ?_) fun L st i h hi ih => ?_
 ·dsimp only [impl_addEsc.S0, impl_addEsc.s0]
  refine tn (by omega) (tp (by simp; omega) (tl ?_))
  rw [← sz, List.drop_length]; rfl
 ·dsimp only [impl_addEsc.S0, impl_addEsc.s0]
  have hb : i < (bytesOf s).length := by omega
  rw [drop_at hb, get_byte hb, wrap_succ (by omega)]
  refine tp (by omega) (ti hi (tp (by simp; omega) (ti hi (teq (fun c => tp (by simp; omega) ?_) fun c => ?_))))
  ·exact (ih _ (by simp; omega)).mono fun r hr => by rw [hr, escM, if_pos c, c]; simp
  ·exact (ih _ (by simp; omega)).mono fun r hr => by rw [hr, escM, if_neg c]; simp
theorem spec_PutEsc.sp {d : Nat} (hd : 1 ≤ d) {l : List Int} {s : ByteArray} (hl : l.length ≤ 10000000000) (hs : s.size ≤ 1000000000) : spec_PutEsc.f d (l, s) = some (l ++ escM (bytesOf s)) := by
 obtain ⟨d, rfl, _⟩ := dep hd
 rw [spec_PutEsc.t_eq]
 dsimp only [spec_PutEsc.m]
 have sz := bytesOf_length s
 refine Tells.eq (tp (by simp; omega) ?_)
 rw [List.nil_append]
 suffices g : Tells (iter (spec_PutEsc.S0 d) rnds (s, (0 : Int), l)) (· = l ++ escM ((bytesOf s).drop 0)) by simpa using g
 refine loop0 (σ := List Int) (spec_PutEsc.S0 d) s.size (fun st i => (s, i, st)) (fun st i => st.length ≤ l.length + 2 * i) (fun st i r => r = st ++ escM ((bytesOf s).drop i)) l (by omega) (by omega) (fun L st h => ?_) fun L st i h hi ih => ?_
 ·dsimp only [spec_PutEsc.S0, spec_PutEsc.s0]
  refine tn (by omega) (tp (by simp; omega) (tl ?_))
  rw [← sz, List.drop_length]; rfl
 ·dsimp only [spec_PutEsc.S0, spec_PutEsc.s0]
  have hb : i < (bytesOf s).length := by omega
  rw [drop_at hb, get_byte hb, wrap_succ (by omega)]
  refine tp (by omega) (ti hi (tp (by simp; omega) (ti hi (teq (fun c => tp (by simp; omega) ?_) fun c => ?_))))
  ·exact (ih _ (by simp; omega)).mono fun r hr => by rw [hr, escM, if_pos c, c]; simp
  ·exact (ih _ (by simp; omega)).mono fun r hr => by rw [hr, escM, if_neg c]; simp
theorem digM_bytes (x : Int) : ∀ n, ∀ b ∈ digM x n, 0 ≤ b ∧ b ≤ 255
 | 0, b, h => by cases h
 | n + 1, b, h => by
  rw [digM] at h
  rcases List.mem_cons.1 h with e | h
  ·rw [e]; omega
  ·exact digM_bytes x n b h
theorem escM_ok : ∀ l : List Int, (∀ b ∈ l, 0 ≤ b ∧ b ≤ 255) → (∀ b ∈ escM l, 0 ≤ b ∧ b ≤ 255) ∧ (escM l).length ≤ 2 * l.length + 2
 | [], _ => ⟨by decide, by decide⟩
 | c :: r, h => by
  have ih := escM_ok r fun b hb => h b (List.mem_cons_of_mem _ hb)
  have hc := h c List.mem_cons_self
  rw [escM]
  split
  ·refine ⟨fun b hb => ?_, by simp only [List.length_cons]; omega⟩
   rcases List.mem_cons.1 hb with e | hb
   ·omega
   rcases List.mem_cons.1 hb with e | hb
   ·omega
   exact ih.1 b hb
  ·refine ⟨fun b hb => ?_, by simp only [List.length_cons]; omega⟩
   rcases List.mem_cons.1 hb with e | hb
   ·omega
   exact ih.1 b hb
theorem valB_ok (v : Vl) (h : v.2.2.size ≤ 30) : (∀ b ∈ valB v, 0 ≤ b ∧ b ≤ 255) ∧ (valB v).length ≤ 62 := by
 unfold valB
 split
 ·exact ⟨digM_bytes _ _, by unfold fixM; rw [digM_len]; decide⟩
 split
 ·exact ⟨varM_bytes _, by have := varM_len v.2.1; omega⟩
 split
 ·have := escM_ok (bytesOf v.2.2) (bytesOf_bytes _)
  have e := bytesOf_length v.2.2
  exact ⟨this.1, by omega⟩
 split
 ·refine ⟨fun b hb => ?_, by simp⟩
  rw [List.mem_singleton] at hb
  omega
 ·exact ⟨fun b hb => (List.not_mem_nil hb).elim, by simp⟩
theorem valOk_size {k n : Int} {s : ByteArray} (h : valOkM k n (bytesOf s) = true) : s.size ≤ 30 ∧ (k = 0 ∨ k = 1 ∨ k = 2 ∨ k = 3 ∨ k = 4) := by
 have e := bytesOf_length s
 have z : ∀ (c : Prop) (_ : Decidable c), (if c then decide (bytesOf s = []) else false) = true → s.size ≤ 30 := by
  intro c _ h
  split at h
  ·rw [decide_eq_true_eq] at h; rw [h] at e; rw [List.length_nil] at e; omega
  ·cases h
 unfold valOkM at h
 split at h
 ·exact ⟨z _ _ h, .inl (by assumption)⟩
 split at h
 ·exact ⟨z _ _ h, .inr (.inl (by assumption))⟩
 split at h
 ·exact ⟨z _ _ h, .inr (.inr (.inl (by assumption)))⟩
 split at h
 ·refine ⟨?_, .inr (.inr (.inr (.inl (by assumption))))⟩
  split at h
  ·rw [decide_eq_true_eq] at h; omega
  ·cases h
 split at h
 ·exact ⟨z _ _ h, .inr (.inr (.inr (.inr (by assumption))))⟩
 ·cases h
theorem rawB_ok {p : Pt} {v : Vl} (h : fitP p v = true) : (∀ b ∈ rawB p v, 0 ≤ b ∧ b ≤ 255) ∧ (rawB p v).length ≤ 63 := by
 have q := valB_ok v (valOk_size (fitP_of h).1).1
 unfold rawB
 refine ⟨app_bytes ?_ q.1, ?_⟩
 ·cases p.2.2.1
  ·intro b hb; cases hb
  ·intro b hb
   rw [cond_true, List.mem_singleton] at hb
   split at hb <;> omega
 ·rw [List.length_append]
  cases p.2.2.1
  ·simp only [cond_false, List.length_nil]; omega
  ·simp only [cond_true, List.length_singleton]; omega
theorem partB_raw (p : Pt) (v : Vl) : partB p v = flipIf p.2.2.2 (rawB p v) := rfl
theorem partB_len {p : Pt} {v : Vl} (h : fitP p v = true) : (partB p v).length ≤ 63 := by
 rw [partB_raw, flipIf_len]; exact (rawB_ok h).2
theorem impl_Flip.last {d : Nat} (hd : 2 ≤ d) {b : Bool} {l x y : List Int} (e : y = l ++ x) (hb : ∀ z ∈ x, 0 ≤ z ∧ z ≤ 255) (hs : l.length + x.length ≤ 100000000000) : Tells (bif b then Option.bind (impl_Flip.f d (y, (l.length : Int))) (fun r => some r) else some y) (· = l ++ flipIf b x) := by
 subst e
 cases b
 ·exact tl rfl
 ·exact tc (impl_Flip.sp hd hb hs) (tl rfl)
theorem spec_Flip.last {d : Nat} (hd : 1 ≤ d) {b : Bool} {l x y : List Int} (e : y = l ++ x) (hb : ∀ z ∈ x, 0 ≤ z ∧ z ≤ 255) (hs : l.length + x.length ≤ 100000000000) : Tells (bif b then Option.bind (spec_Flip.f d (y, (l.length : Int))) (fun r => some r) else some y) (· = l ++ flipIf b x) := by
 subst e
 cases b
 ·exact tl rfl
 ·exact tc (spec_Flip.sp hd hb hs) (tl rfl)
theorem none_toList (s : ByteArray) : (s.toList == (⟨#[]⟩ : ByteArray).toList) = decide (bytesOf s = []) := by
 rw [← empty_toList, show (⟨#[]⟩ : ByteArray).toList = [] by rw [ByteArray.toList_eq]]
theorem impl_ValOk.sp {d : Nat} (hd : 2 ≤ d) (v : Vl) : impl_ValOk.f d (v.1, v.2.1, v.2.2) = some (valOkM v.1 v.2.1 (bytesOf v.2.2)) := by
 obtain ⟨d, rfl, _⟩ := dep hd
 rw [impl_ValOk.t_eq]
 dsimp only [impl_ValOk.m]
 have e := none_toList v.2.2
 have z := bytesOf_length v.2.2
 unfold valOkM
 refine Tells.eq (teq (fun c => ?_) fun c => ?_)
 ·rw [if_pos c]
  refine teq (fun c2 => tl ?_) fun c2 => tl ?_
  ·rw [if_pos c2]; exact e
  ·rw [if_neg c2]
 rw [if_neg c]
 refine teq (fun c => ?_) fun c => ?_
 ·rw [if_pos c]
  refine tc (impl_in.sp (by omega) _ _ _) (tbif (fun c2 => tl ?_) fun c2 => tl ?_)
  ·rw [if_pos c2]; exact e
  ·rw [if_neg (by rw [c2]; simp)]
 rw [if_neg c]
 refine teq (fun c => ?_) fun c => ?_
 ·rw [if_pos c]
  refine tc (impl_in.sp (by omega) _ _ _) (tbif (fun c2 => tl ?_) fun c2 => tl ?_)
  ·rw [if_pos c2]; exact e
  ·rw [if_neg (by rw [c2]; simp)]
 rw [if_neg c]
 refine teq (fun c => ?_) fun c => ?_
 ·rw [if_pos c]
  refine teq (fun c2 => tl ?_) fun c2 => tl ?_
  ·rw [if_pos c2, z]
  ·rw [if_neg c2]
 rw [if_neg c]
 refine teq (fun c => ?_) fun c => ?_
 ·rw [if_pos c]
  refine tc (impl_in.sp (by omega) _ _ _) (tbif (fun c2 => tl ?_) fun c2 => tl ?_)
  ·rw [if_pos c2]; exact e
  ·rw [if_neg (by rw [c2]; simp)]
 ·rw [if_neg c]; exact tl rfl
theorem spec_ValOk.sp {d : Nat} (hd : 2 ≤ d) (v : Vl) : spec_ValOk.f d (v.1, v.2.1, v.2.2) = some (valOkM v.1 v.2.1 (bytesOf v.2.2)) := by
 obtain ⟨d, rfl, _⟩ := dep hd
 rw [spec_ValOk.t_eq]
 dsimp only [spec_ValOk.m]
 have e := none_toList v.2.2
 have z := bytesOf_length v.2.2
 unfold valOkM
 refine Tells.eq (teq (fun c => ?_) fun c => ?_)
 ·rw [if_pos c]
  refine teq (fun c2 => tl ?_) fun c2 => tl ?_
  ·rw [if_pos c2]; exact e
  ·rw [if_neg c2]
 rw [if_neg c]
 refine teq (fun c => ?_) fun c => ?_
 ·rw [if_pos c]
  refine tc (spec_l1In.sp (by omega) _ _ _) (tbif (fun c2 => tl ?_) fun c2 => tl ?_)
  ·rw [if_pos c2]; exact e
  ·rw [if_neg (by rw [c2]; simp)]
 rw [if_neg c]
 refine teq (fun c => ?_) fun c => ?_
 ·rw [if_pos c]
  refine tc (spec_l1In.sp (by omega) _ _ _) (tbif (fun c2 => tl ?_) fun c2 => tl ?_)
  ·rw [if_pos c2]; exact e
  ·rw [if_neg (by rw [c2]; simp)]
 rw [if_neg c]
 refine teq (fun c => ?_) fun c => ?_
 ·rw [if_pos c]
  refine tif (fun c2 => tl ?_) fun c2 => tl ?_
  ·by_cases c3 : v.2.1 = 0
   ·rw [if_pos c3, c3, z, decide_eq_true c2]; rfl
   ·rw [if_neg c3, beq_eq_false_iff_ne]; exact c3
  ·split
   ·rw [z, decide_eq_false c2]
   ·rfl
 rw [if_neg c]
 refine teq (fun c => ?_) fun c => ?_
 ·rw [if_pos c]
  refine tc (spec_l1In.sp (by omega) _ _ _) (tbif (fun c2 => tl ?_) fun c2 => tl ?_)
  ·rw [if_pos c2]; exact e
  ·rw [if_neg (by rw [c2]; simp)]
 ·rw [if_neg c]; exact tl rfl
theorem fit_tail {v : Vl} {p : Pt} : Tells (bif v.1 == p.2.1 then bif v.1 != 0 then some true else bif v.1 == 0 then some p.2.2.1 else some false else bif v.1 == 0 then some p.2.2.1 else some false) (· = if v.1 = p.2.1 then (if v.1 = 0 then p.2.2.1 else true) else (if v.1 = 0 then p.2.2.1 else false)) := by
 refine teq (fun c => ?_) fun c => ?_
 ·rw [if_pos c]
  refine tneq (fun c2 => tl ?_) fun c2 => teq (fun c3 => tl ?_) fun c3 => absurd c2 c3
  ·rw [if_neg c2]
  ·rw [if_pos c3]
 ·rw [if_neg c]
  refine teq (fun c3 => tl ?_) fun c3 => tl ?_
  ·rw [if_pos c3]
  ·rw [if_neg c3]
theorem impl_Fits.sp {d : Nat} (hd : 3 ≤ d) (p : Pt) (v : Vl) : impl_Fits.f d (p.1, p.2.1, p.2.2.1, p.2.2.2, v.1, v.2.1, v.2.2) = some (fitP p v) := by
 obtain ⟨d, rfl, _⟩ := dep hd
 rw [impl_Fits.t_eq]
 dsimp only [impl_Fits.m]
 unfold fitP fitsM
 refine Tells.eq (tc (impl_ValOk.sp (by omega) v) (tbif (fun c => ?_) fun c => tl ?_))
 ·rw [if_pos c]; exact fit_tail
 ·rw [if_neg (by rw [c]; simp)]
theorem spec_Fits.sp {d : Nat} (hd : 3 ≤ d) (p : Pt) (v : Vl) : spec_Fits.f d (p.1, p.2.1, p.2.2.1, p.2.2.2, v.1, v.2.1, v.2.2) = some (fitP p v) := by
 obtain ⟨d, rfl, _⟩ := dep hd
 rw [spec_Fits.t_eq]
 dsimp only [spec_Fits.m]
 unfold fitP fitsM
 refine Tells.eq (tc (spec_ValOk.sp (by omega) v) (tbif (fun c => ?_) fun c => tl ?_))
 ·rw [if_pos c]; exact fit_tail
 ·rw [if_neg (by rw [c]; simp)]
open Go Go.Proofs
theorem impl_addPart.chain {d : Nat} (hd : 2 ≤ d) {l Y pre : List Int} {k n : Int} {s : ByteArray} {ds : Bool} (hY : Y = l ++ pre) (hl : l.length ≤ 1000000000) (hp : pre.length ≤ 1) (hs : s.size ≤ 30) (hb : ∀ b ∈ pre, 0 ≤ b ∧ b ≤ 255) :
  Tells (bif k == 1 then Option.bind (impl_addFix.f d (Y, n)) (fun r => bif ds then Option.bind (impl_Flip.f d (r, (l.length : Int))) (fun r => some r) else some r)
   else bif k == 2 then Option.bind (impl_addVar.f d (Y, n)) (fun r => bif ds then Option.bind (impl_Flip.f d (r, (l.length : Int))) (fun r => some r) else some r)
   else bif k == 3 then Option.bind (impl_addEsc.f d (Y, s)) (fun r => bif ds then Option.bind (impl_Flip.f d (r, (l.length : Int))) (fun r => some r) else some r)
   else bif k == 4 then bif decide ((Y.length + ([IntKind.wrap IntKind.u8 n] : List Int).length) * 1 ≤ 140737488355328) then bif ds then Option.bind (impl_Flip.f d (Y ++ [IntKind.wrap IntKind.u8 n], (l.length : Int))) (fun r => some r) else some (Y ++ [IntKind.wrap IntKind.u8 n]) else none
   else bif ds then Option.bind (impl_Flip.f d (Y, (l.length : Int))) (fun r => some r) else some Y) (· = l ++ flipIf ds (pre ++ valB (k, n, s))) := by
 have ok := valB_ok (k, n, s) hs
 have hb2 := app_bytes hb ok.1
 have hl2 : l.length + (pre ++ valB (k, n, s)).length ≤ 100000000000 := by rw [List.length_append]; omega
 have yl : Y.length = l.length + pre.length := by rw [hY, List.length_append]
 refine teq (fun c => ?_) fun c1 => teq (fun c => ?_) fun c2 => teq (fun c => ?_) fun c3 => teq (fun c => ?_) fun c4 => ?_
 ·refine tc (impl_addFix.sp (by omega) (by omega)) (impl_Flip.last hd ?_ hb2 hl2)
  rw [hY, List.append_assoc]; unfold valB; rw [if_pos c]
 ·refine tc (impl_addVar.sp (by omega) (by omega)) (impl_Flip.last hd ?_ hb2 hl2)
  rw [hY, List.append_assoc]; unfold valB; rw [if_neg c1, if_pos c]
 ·refine tc (impl_addEsc.sp (by omega) (by omega) (by omega)) (impl_Flip.last hd ?_ hb2 hl2)
  rw [hY, List.append_assoc]; unfold valB; rw [if_neg c1, if_neg c2, if_pos c]
 ·refine tp (by rw [List.length_singleton]; omega) (impl_Flip.last hd ?_ hb2 hl2)
  rw [hY, List.append_assoc, IntKind.wrap_u8]; unfold valB; rw [if_neg c1, if_neg c2, if_neg c3, if_pos c]
 ·refine impl_Flip.last hd ?_ hb2 hl2
  rw [hY]; unfold valB; rw [if_neg c1, if_neg c2, if_neg c3, if_neg c4, List.append_nil]
theorem impl_addPart.sp {d : Nat} (hd : 4 ≤ d) {l : List Int} {p : Pt} {v : Vl} (hl : l.length ≤ 1000000000) (hp : partOkM p.1 p.2.1 = true) (hf : fitP p v = true) : impl_addPart.f d (l, p.1, p.2.1, p.2.2.1, p.2.2.2, v.1, v.2.1, v.2.2) = some (l ++ partB p v) := by
 obtain ⟨d, rfl, _⟩ := dep hd
 rw [impl_addPart.t_eq]
 dsimp only [impl_addPart.m]
 have sz := valOk_size (fitP_of hf).1
 have fo := (fitP_of hf).2
 have po := impl_PartOk.sp (d := d) (by omega) p
 have fi := impl_Fits.sp (d := d) (by omega) p v
 rw [hp] at po
 rw [hf] at fi
 refine Tells.eq (tc po (tf rfl (tc fi (tf rfl ?_))))
 rw [partB_raw]
 unfold rawB
 obtain ⟨pc, ty, nu, ds⟩ := p
 obtain ⟨k, n, s⟩ := v
 dsimp only at sz fo ⊢
 cases nu with
 | true =>
  refine tt rfl (teq (fun c => tp (by rw [List.length_singleton]; omega) ?_) fun c => tt rfl (tp (by rw [List.length_singleton]; omega) ?_))
  ·have q := impl_addPart.chain (d := d) (l := l) (Y := l ++ [(0 : Int)]) (pre := [(0 : Int)]) (k := k) (n := n) (s := s) (ds := ds) (by omega) rfl hl (by simp) sz.1 (by simp)
   rw [if_pos c]
   exact q
  ·have q := impl_addPart.chain (d := d) (l := l) (Y := l ++ [(1 : Int)]) (pre := [(1 : Int)]) (k := k) (n := n) (s := s) (ds := ds) (by omega) rfl hl (by simp) sz.1 (by simp)
   rw [if_neg c]
   exact q
 | false =>
  refine tf rfl (tf rfl ?_)
  exact impl_addPart.chain (d := d) (l := l) (Y := l) (pre := []) (k := k) (n := n) (s := s) (ds := ds) (by omega) (by rw [List.append_nil]) hl (by simp) sz.1 (by simp)
theorem spec_l5Value.sp {d : Nat} (hd : 3 ≤ d) {l : List Int} {v : Vl} (hl : l.length ≤ 1000000001) (hs : v.2.2.size ≤ 30) (hk : v.1 = 1 ∨ v.1 = 2 ∨ v.1 = 3 ∨ v.1 = 4) : spec_l5Value.f d (l, v.1, v.2.1, v.2.2) = some (l ++ valB v) := by
 obtain ⟨d, rfl, _⟩ := dep hd
 rw [spec_l5Value.t_eq]
 dsimp only [spec_l5Value.m]
 unfold valB
 refine Tells.eq (teq (fun c => ?_) fun c1 => teq (fun c => ?_) fun c2 => teq (fun c => ?_) fun c3 => ?_)
 ·rw [if_pos c]; exact tc (spec_PutFix.sp (by omega) (by omega)) (tl rfl)
 ·rw [if_neg c1, if_pos c]; exact tc (spec_PutVar.sp (by omega) (by omega)) (tl rfl)
 ·rw [if_neg c1, if_neg c2, if_pos c]; exact tc (spec_PutEsc.sp (by omega) (by omega) (by omega)) (tl rfl)
 ·rw [if_neg c1, if_neg c2, if_neg c3, if_pos (by omega)]
  refine tp (by simp only [List.length_nil]; omega) (tp (by simp only [List.length_append, List.length_nil, List.length_singleton]; omega) (tl ?_))
  rw [IntKind.wrap_u8, List.nil_append]
theorem spec_PartOk.sp {d : Nat} (hd : 2 ≤ d) (p : Pt) : spec_PartOk.f d (p.1, p.2.1, p.2.2.1, p.2.2.2) = some (partOkM p.1 p.2.1) := by
 obtain ⟨d, rfl, _⟩ := dep hd
 rw [spec_PartOk.t_eq]
 dsimp only [spec_PartOk.m]
 unfold partOkM
 refine Tells.eq (tc (spec_l1In.sp (by omega) _ _ _) (tbif (fun c => ?_) fun c => ?_))
 ·rw [if_pos c]; exact tc (spec_l1In.sp (by omega) _ _ _) (tl rfl)
 ·rw [if_neg (by rw [c]; simp)]; exact tl rfl
theorem spec_PutPart.sp {d : Nat} (hd : 4 ≤ d) {l : List Int} {p : Pt} {v : Vl} (hl : l.length ≤ 1000000000) (hp : partOkM p.1 p.2.1 = true) (hf : fitP p v = true) : spec_PutPart.f d (l, p.1, p.2.1, p.2.2.1, p.2.2.2, v.1, v.2.1, v.2.2) = some (l ++ partB p v) := by
 obtain ⟨d, rfl, _⟩ := dep hd
 rw [spec_PutPart.t_eq]
 dsimp only [spec_PutPart.m]
 have sz := valOk_size (fitP_of hf).1
 have fo := (fitP_of hf).2
 have ok := rawB_ok hf
 have po := spec_PartOk.sp (d := d) (by omega) p
 have fi := spec_Fits.sp (d := d) (by omega) p v
 rw [hp] at po
 rw [hf] at fi
 refine Tells.eq (tp (by simp only [List.length_nil]; omega) (tc po (tf rfl (tc fi (tf rfl ?_)))))
 rw [List.nil_append, partB_raw]
 have fin : ∀ y, y = l ++ rawB p v → Tells (bif p.2.2.2 then Option.bind (spec_Flip.f d (y, (l.length : Int))) (fun r => some r) else some y) (· = l ++ flipIf p.2.2.2 (rawB p v)) := fun y e => spec_Flip.last (by omega) e ok.1 (by omega)
 refine teq (fun c => tp (by rw [List.length_singleton]; omega) (fin _ ?_)) fun c => ?_
 ·have nu : p.2.2.1 = true := by rcases fo with h | h
                                 ·exact h.2 c
                                 ·exact h.2
  unfold rawB valB
  rw [nu, cond_true, if_pos c, if_neg (by omega), if_neg (by omega), if_neg (by omega), if_neg (by omega)]; rfl
 ·refine tbif (fun nu => tp (by rw [List.length_singleton]; omega) (tc (spec_l5Value.sp (by omega) (by rw [List.length_append, List.length_singleton]; omega) sz.1 (by omega)) (fin _ ?_))) fun nu => tc (spec_l5Value.sp (by omega) (by omega) sz.1 (by omega)) (fin _ ?_)
  ·unfold rawB
   rw [nu, cond_true, if_neg c, List.append_assoc]
  ·unfold rawB
   rw [nu]; rfl
theorem spec_PlanOk.sp {d : Nat} (hd : 3 ≤ d) {l : List Pt} (hl : l.length ≤ 140737488351232) : spec_PlanOk.f d l = some (planOkM l) := by
 obtain ⟨d, rfl, _⟩ := dep hd
 rw [spec_PlanOk.t_eq]
 dsimp only [spec_PlanOk.m]
 suffices g : Tells (iter (spec_PlanOk.S0 d) rnds (l, (0 : Int))) (· = (l.all (fun p => partOkM p.1 p.2.1) && decide (l.length ≤ 6))) from g.eq
 refine loopL (spec_PlanOk.S0 d) l (fun i => (l, i)) (fun i (r : List Pt) => r.all (fun p => partOkM p.1 p.2.1) && decide (l.length ≤ 6)) (by omega) (fun L => ?_) fun L i hi ih => ?_
 ·dsimp only [spec_PlanOk.S0, spec_PlanOk.s0]
  refine tn (by omega) (tl ?_)
  rw [List.all_nil, Bool.true_and, decide_eq_decide]; omega
 ·dsimp only [spec_PlanOk.S0, spec_PlanOk.s0]
  refine tp (by omega) (ti hi ?_)
  rw [getD_in hi, wrap_succ (by omega), List.all_cons]
  refine tc (spec_PartOk.sp (by omega) _) ?_
  cases partOkM l[i].1 l[i].2.1
  ·exact tt rfl (tl rfl)
  ·exact tf rfl (ih.mono fun r hr => by rw [hr, Bool.true_and])
def fitsAllM (l : List Pt) (vs : List Vl) : Bool := decide (vs.length ≤ l.length) && (l.zip vs).all fun x => fitP x.1 x.2
theorem impl_FitsAll.sp {d : Nat} (hd : 4 ≤ d) {l : List Pt} {vs : List Vl} (hv : vs.length ≤ 140737488351232) : impl_FitsAll.f d (l, vs) = some (fitsAllM l vs) := by
 obtain ⟨d, rfl, _⟩ := dep hd
 rw [impl_FitsAll.t_eq]
 dsimp only [impl_FitsAll.m]
 unfold fitsAllM
 refine Tells.eq (tif (fun c => tl (by rw [decide_eq_false (by omega)]; rfl)) fun c => ?_)
 rw [decide_eq_true (by omega), Bool.true_and]
 refine loopE (impl_FitsAll.S0 d) vs.length (fun i => (l, vs, (vs.length : Int), i)) (fun i r => r = ((l.drop i).zip (vs.drop i)).all fun x => fitP x.1 x.2) (by omega) (fun L => ?_) fun L i hi ih => ?_
 ·dsimp only [impl_FitsAll.S0, impl_FitsAll.s0]
  refine tn (by omega) (tl ?_)
  rw [List.drop_length, List.zip_nil_right]; rfl
 ·dsimp only [impl_FitsAll.S0, impl_FitsAll.s0]
  have hi2 : i < l.length := by omega
  refine tp (by omega) (ti hi (ti hi2 ?_))
  rw [getD_in hi, getD_in hi2, wrap_succ (by omega), drop_at hi, drop_at hi2, List.zip_cons_cons, List.all_cons]
  refine tc (impl_Fits.sp (by omega) l[i] vs[i]) ?_
  cases fitP l[i] vs[i]
  ·exact tt rfl (tl rfl)
  ·exact tf rfl (ih.mono fun r hr => by rw [hr, Bool.true_and])
theorem spec_FitsAll.sp {d : Nat} (hd : 4 ≤ d) {l : List Pt} {vs : List Vl} (hv : vs.length ≤ 140737488351232) : spec_FitsAll.f d (l, vs) = some (fitsAllM l vs) := by
 obtain ⟨d, rfl, _⟩ := dep hd
 rw [spec_FitsAll.t_eq]
 dsimp only [spec_FitsAll.m]
 unfold fitsAllM
 refine Tells.eq (tif (fun c => tl (by rw [decide_eq_false (by omega)]; rfl)) fun c => ?_)
 rw [decide_eq_true (by omega), Bool.true_and]
 refine loopE (spec_FitsAll.S0 d) vs.length (fun i => (l, vs, i)) (fun i r => r = ((l.drop i).zip (vs.drop i)).all fun x => fitP x.1 x.2) (by omega) (fun L => ?_) fun L i hi ih => ?_
 ·dsimp only [spec_FitsAll.S0, spec_FitsAll.s0]
  refine tn (by omega) (tl ?_)
  rw [List.drop_length, List.zip_nil_right]; rfl
 ·dsimp only [spec_FitsAll.S0, spec_FitsAll.s0]
  have hi2 : i < l.length := by omega
  refine tp (by omega) (ti hi2 (ti hi ?_))
  rw [getD_in hi, getD_in hi2, wrap_succ (by omega), drop_at hi, drop_at hi2, List.zip_cons_cons, List.all_cons]
  refine tc (spec_Fits.sp (by omega) l[i] vs[i]) ?_
  cases fitP l[i] vs[i]
  ·exact tt rfl (tl rfl)
  ·exact tf rfl (ih.mono fun r hr => by rw [hr, Bool.true_and])
def rowOkM (l : List Pt) (vs : List Vl) : Bool := planOkM l && (decide ((vs.length : Int) = l.length) && fitsAllM l vs)
theorem impl_RowOk.sp {d : Nat} (hd : 5 ≤ d) {l : List Pt} {vs : List Vl} (hl : l.length ≤ 140737488351232) (hv : vs.length ≤ 140737488351232) : impl_RowOk.f d (l, vs) = some (rowOkM l vs) := by
 obtain ⟨d, rfl, _⟩ := dep hd
 rw [impl_RowOk.t_eq]
 dsimp only [impl_RowOk.m]
 unfold rowOkM
 refine Tells.eq (tc (impl_PlanOk.sp (by omega) hl) ?_)
 cases planOkM l
 ·exact tf rfl (tl rfl)
 refine tt rfl (teq (fun c => ?_) fun c => tl ?_)
 ·rw [decide_eq_true c]; exact tc (impl_FitsAll.sp (by omega) hv) (tl rfl)
 ·rw [decide_eq_false c]; rfl
theorem spec_RowOk.sp {d : Nat} (hd : 5 ≤ d) {l : List Pt} {vs : List Vl} (hl : l.length ≤ 140737488351232) (hv : vs.length ≤ 140737488351232) : spec_RowOk.f d (l, vs) = some (rowOkM l vs) := by
 obtain ⟨d, rfl, _⟩ := dep hd
 rw [spec_RowOk.t_eq]
 dsimp only [spec_RowOk.m]
 unfold rowOkM
 refine Tells.eq (tc (spec_PlanOk.sp (by omega) hl) ?_)
 cases planOkM l
 ·exact tf rfl (tl rfl)
 refine tt rfl (teq (fun c => ?_) fun c => tl ?_)
 ·rw [decide_eq_true c]; exact tc (spec_FitsAll.sp (by omega) hv) (tl rfl)
 ·rw [decide_eq_false c]; rfl
def encM (l : List Pt) (vs : List Vl) : List Int := bif planOkM l && fitsAllM l vs then keyB l vs else []
theorem planOk_of {l : List Pt} (h : planOkM l = true) : (∀ p ∈ l, partOkM p.1 p.2.1 = true) ∧ l.length ≤ 6 := by
 unfold planOkM at h
 rw [Bool.and_eq_true, List.all_eq_true, decide_eq_true_eq] at h
 exact h
theorem fitsAll_of {l : List Pt} {vs : List Vl} (h : fitsAllM l vs = true) : vs.length ≤ l.length ∧ ∀ x ∈ l.zip vs, fitP x.1 x.2 = true := by
 unfold fitsAllM at h
 rw [Bool.and_eq_true, List.all_eq_true, decide_eq_true_eq] at h
 exact h
theorem keyB_len : ∀ (l : List Pt) (vs : List Vl), (∀ x ∈ l.zip vs, fitP x.1 x.2 = true) → (keyB l vs).length ≤ 63 * l.length
 | [], _, _ => by simp [keyB]
 | _ :: _, [], _ => by simp [keyB]
 | p :: l, v :: vs, h => by
  rw [List.zip_cons_cons] at h
  have := keyB_len l vs fun x hx => h x (List.mem_cons_of_mem _ hx)
  have := partB_len (h (p, v) List.mem_cons_self)
  rw [keyB, List.length_append, List.length_cons]
  simp only at this
  omega
theorem encM_len (l : List Pt) (vs : List Vl) : (encM l vs).length ≤ 378 := by
 unfold encM
 cases h : planOkM l && fitsAllM l vs with
 | false => simp
 | true =>
  rw [Bool.and_eq_true] at h
  have a := planOk_of h.1
  have := keyB_len l vs (fitsAll_of h.2).2
  rw [cond_true]
  omega
theorem zip_at {l : List Pt} {vs : List Vl} {i : Nat} (h1 : i < l.length) (h2 : i < vs.length) : (l[i], vs[i]) ∈ l.zip vs := by
 rw [List.mem_iff_getElem]
 exact ⟨i, by rw [List.length_zip]; omega, by rw [List.getElem_zip]⟩
theorem impl_EncodeKey.sp {d : Nat} (hd : 5 ≤ d) {l : List Pt} {vs : List Vl} (hl : l.length ≤ 140737488351232) (hv : vs.length ≤ 140737488351232) : impl_EncodeKey.f d (l, vs) = some (encM l vs) := by
 obtain ⟨d, rfl, _⟩ := dep hd
 rw [impl_EncodeKey.t_eq]
 dsimp only [impl_EncodeKey.m]
 unfold encM
 refine Tells.eq (tc (impl_PlanOk.sp (by omega) hl) ?_)
 cases hp : planOkM l with
 | false => exact tt rfl (tl rfl)
 | true =>
 refine tf rfl (tc (impl_FitsAll.sp (by omega) hv) ?_)
 cases hf : fitsAllM l vs with
 | false => exact tt rfl (tl rfl)
 | true =>
 have po := planOk_of hp
 have fo := fitsAll_of hf
 refine tf rfl ?_
 show Tells _ (· = [] ++ keyB (l.drop 0) (vs.drop 0))
 refine loop0 (σ := List Int) (impl_EncodeKey.S0 d) vs.length (fun st i => (l, vs, (vs.length : Int), i, st)) (fun st i => st.length ≤ 63 * i) (fun st i r => r = st ++ keyB (l.drop i) (vs.drop i)) [] (by omega) (by simp) (fun L st h => ?_) fun L st i h hi ih => ?_
 ·dsimp only [impl_EncodeKey.S0, impl_EncodeKey.s0]
  refine tn (by omega) (tl ?_)
  rw [List.drop_length, keyB, List.append_nil]; exact fun _ _ _ _ _ e => by cases e
 ·dsimp only [impl_EncodeKey.S0, impl_EncodeKey.s0]
  have hi2 : i < l.length := by omega
  have ft := fo.2 _ (zip_at hi2 hi)
  have pl := partB_len ft
  simp only at ft pl
  refine tp (by omega) (ti hi (ti hi2 ?_))
  rw [getD_in hi, getD_in hi2, wrap_succ (by omega), drop_at hi, drop_at hi2, keyB]
  refine tc (impl_addPart.sp (by omega) (by omega) (po.1 _ (List.getElem_mem hi2)) ft) ?_
  exact (ih _ (by rw [List.length_append]; omega)).mono fun r hr => by rw [hr, List.append_assoc]
theorem spec_EncodeKey.sp {d : Nat} (hd : 5 ≤ d) {l : List Pt} {vs : List Vl} (hl : l.length ≤ 140737488351232) (hv : vs.length ≤ 140737488351232) : spec_EncodeKey.f d (l, vs) = some (encM l vs) := by
 obtain ⟨d, rfl, _⟩ := dep hd
 rw [spec_EncodeKey.t_eq]
 dsimp only [spec_EncodeKey.m]
 unfold encM
 refine Tells.eq (tc (spec_PlanOk.sp (by omega) hl) ?_)
 cases hp : planOkM l with
 | false => exact tt rfl (tl rfl)
 | true =>
 refine tf rfl (tc (spec_FitsAll.sp (by omega) hv) ?_)
 cases hf : fitsAllM l vs with
 | false => exact tt rfl (tl rfl)
 | true =>
 have po := planOk_of hp
 have fo := fitsAll_of hf
 refine tf rfl ?_
 show Tells _ (· = [] ++ keyB (l.drop 0) (vs.drop 0))
 refine loop0 (σ := List Int) (spec_EncodeKey.S0 d) vs.length (fun st i => (l, vs, i, st)) (fun st i => st.length ≤ 63 * i) (fun st i r => r = st ++ keyB (l.drop i) (vs.drop i)) [] (by omega) (by simp) (fun L st h => ?_) fun L st i h hi ih => ?_
 ·dsimp only [spec_EncodeKey.S0, spec_EncodeKey.s0]
  refine tn (by omega) (tl ?_)
  rw [List.drop_length, keyB, List.append_nil]; exact fun _ _ _ _ _ e => by cases e
 ·dsimp only [spec_EncodeKey.S0, spec_EncodeKey.s0]
  have hi2 : i < l.length := by omega
  have ft := fo.2 _ (zip_at hi2 hi)
  have pl := partB_len ft
  simp only at ft pl
  refine tp (by omega) (ti hi2 (ti hi ?_))
  rw [getD_in hi, getD_in hi2, wrap_succ (by omega), drop_at hi, drop_at hi2, keyB]
  refine tc (spec_PutPart.sp (by omega) (by omega) (po.1 _ (List.getElem_mem hi2)) ft) ?_
  exact (ih _ (by rw [List.length_append]; omega)).mono fun r hr => by rw [hr, List.append_assoc]
open Go Go.Proofs
def pickV (row : List Vl) (p : Pt) : Vl := bif inB p.1 0 ((row.length : Int) - 1) then List.getD row (Int.toNat p.1) ((0 : Int), (0 : Int), ByteArray.empty) else ((0 : Int), (0 : Int), ByteArray.empty)
def pickM (l : List Pt) (row : List Vl) : List Vl := l.map (pickV row)
theorem impl_Pick.sp {d : Nat} (hd : 2 ≤ d) {l : List Pt} {row : List Vl} (hl : l.length ≤ 100) (hr : row.length ≤ 140737488351232) : impl_Pick.f d (l, row) = some (pickM l row) := by
 obtain ⟨d, rfl, _⟩ := dep hd
 rw [impl_Pick.t_eq]
 dsimp only [impl_Pick.m]
 refine Tells.eq (loopApp (impl_Pick.S0 d) l (pickV row) (fun st i => (row, l, (l.length : Int), i, st)) (· = pickM l row) (by omega) (fun L => ?_) fun L st i Q hi h ih => ?_)
 ·dsimp only [impl_Pick.S0, impl_Pick.s0]
  exact tn (by omega) (tl rfl)
 ·dsimp only [impl_Pick.S0, impl_Pick.s0]
  rw [getD_in hi, wrap_succ (by omega), wrap_id (x := (row.length : Int) - 1) (by omega) (by omega)]
  refine tp (by omega) (ti hi (tc (impl_in.sp (by omega) _ _ _) (tbif (fun c => ?_) fun c => ?_)))
  ·have q := inB_iff.1 c
   unfold pickV at ih
   rw [c, cond_true] at ih
   exact tand q.1 (by omega) (tp (by simp; omega) ih)
  ·unfold pickV at ih
   rw [c, cond_false] at ih
   exact tp (by simp; omega) ih
theorem spec_Pick.sp {d : Nat} (hd : 2 ≤ d) {l : List Pt} {row : List Vl} (hl : l.length ≤ 100) (hr : row.length ≤ 140737488351232) : spec_Pick.f d (l, row) = some (pickM l row) := by
 obtain ⟨d, rfl, _⟩ := dep hd
 rw [spec_Pick.t_eq]
 dsimp only [spec_Pick.m]
 refine Tells.eq (loopApp (spec_Pick.S0 d) l (pickV row) (fun st i => (l, row, i, st)) (· = pickM l row) (by omega) (fun L => ?_) fun L st i Q hi h ih => ?_)
 ·dsimp only [spec_Pick.S0, spec_Pick.s0]
  exact tn (by omega) (tl rfl)
 ·dsimp only [spec_Pick.S0, spec_Pick.s0]
  rw [getD_in hi, wrap_succ (by omega), wrap_id (x := (row.length : Int) - 1) (by omega) (by omega)]
  refine tp (by omega) (ti hi (tc (spec_l1In.sp (by omega) _ _ _) (tbif (fun c => ti hi ?_) fun c => ?_)))
  ·have q := inB_iff.1 c
   unfold pickV at ih
   rw [c, cond_true] at ih
   exact tand q.1 (by omega) (tp (by simp; omega) ih)
  ·unfold pickV at ih
   rw [c, cond_false] at ih
   exact tp (by simp; omega) ih
def planM (x : Df) (i : Int) : List Pt := bif decide (i < 0) then planP x else planI x i
theorem planM_len (x : Df) (i : Int) : (planM x i).length ≤ 10 := by
 unfold planM
 cases decide (i < 0)
 ·exact planI_len x i
 ·exact planP_len x
theorem impl_planOf.sp {d : Nat} (hd : 7 ≤ d) {x : Df} (h : dfFit 140737488351232 x) (i : Int) : impl_planOf.f d (x.1, x.2.1, x.2.2.1, x.2.2.2, i) = some (planM x i) := by
 obtain ⟨d, rfl, _⟩ := dep hd
 rw [impl_planOf.t_eq]
 dsimp only [impl_planOf.m]
 unfold planM
 refine Tells.eq (tif (fun c => ?_) fun c => ?_)
 ·rw [decide_eq_true c]; exact tc (impl_PrimaryPlan.sp (by omega) h) (tl rfl)
 ·rw [decide_eq_false c]; exact tc (impl_IndexPlan.sp (by omega) h i) (tl rfl)
theorem spec_l11Plan.sp {d : Nat} (hd : 8 ≤ d) {x : Df} (h : dfFit 140737488351232 x) {i : Int} (hi : -1 ≤ i) : spec_l11Plan.f d (x.1, x.2.1, x.2.2.1, x.2.2.2, i) = some (planM x i) := by
 obtain ⟨d, rfl, _⟩ := dep hd
 rw [spec_l11Plan.t_eq]
 dsimp only [spec_l11Plan.m]
 unfold planM
 refine Tells.eq (teq (fun c => ?_) fun c => ?_)
 ·rw [decide_eq_true (by omega)]; exact tc (spec_PrimaryPlan.sp (by omega) h) (tl rfl)
 ·rw [decide_eq_false (by omega)]; exact tc (spec_IndexPlan.sp (by omega) h i) (tl rfl)
def keyR (s : List Df) (t i : Int) (row : List Vl) : List Int := headM s t i ++ encM (planM (defAt s t) i) (pickM (planM (defAt s t) i) row)
theorem pickM_len (l : List Pt) (row : List Vl) : (pickM l row).length = l.length := List.length_map ..
theorem impl_keyOf.sp {d : Nat} (hd : 9 ≤ d) {s : List Df} (hl : s.length ≤ 140737488351232) (hx : ∀ x ∈ s, dfFit 140737488351232 x) {t i : Int} (th : thereM s t i = true) {row : List Vl} (hr : row.length ≤ 140737488351232) : impl_keyOf.f d (s, t, i, row) = some (keyR s t i row) := by
 obtain ⟨d, rfl, _⟩ := dep hd
 rw [impl_keyOf.t_eq]
 dsimp only [impl_keyOf.m]
 have q := there_iff.1 th
 have pl := planM_len (defAt s t) i
 have hh := headM_len s t i
 have he := encM_len (planM (defAt s t) i) (pickM (planM (defAt s t) i) row)
 refine Tells.eq (tand q.2.1.1 q.2.1.2 ?_)
 refine tc (impl_planOf.sp (x := defAt s t) (by omega) (hx _ (defAt_mem q.2.1.1 q.2.1.2)) i) ?_
 refine tc (impl_HeadOf.sp (by omega) hl hx t i) (tc (impl_Pick.sp (by omega) (by omega) hr) (tc (impl_EncodeKey.sp (by omega) (by omega) (by rw [pickM_len]; omega)) (tp (by omega) (tl rfl))))
theorem spec_l11Key.sp {d : Nat} (hd : 10 ≤ d) {s : List Df} (hl : s.length ≤ 140737488351232) (hx : ∀ x ∈ s, dfFit 140737488351232 x) {t i : Int} (th : thereM s t i = true) {row : List Vl} (hr : row.length ≤ 140737488351232) : spec_l11Key.f d (s, t, i, row) = some (keyR s t i row) := by
 obtain ⟨d, rfl, _⟩ := dep hd
 rw [spec_l11Key.t_eq]
 dsimp only [spec_l11Key.m]
 have q := there_iff.1 th
 have pl := planM_len (defAt s t) i
 have hh := headM_len s t i
 have he := encM_len (planM (defAt s t) i) (pickM (planM (defAt s t) i) row)
 refine Tells.eq (tand q.2.1.1 q.2.1.2 ?_)
 refine tc (spec_l11Plan.sp (x := defAt s t) (by omega) (hx _ (defAt_mem q.2.1.1 q.2.1.2)) q.2.2.1) ?_
 refine tc (spec_HeadOf.sp (by omega) hl hx t i) (tc (spec_Pick.sp (by omega) (by omega) hr) (tc (spec_EncodeKey.sp (by omega) (by omega) (by rw [pickM_len]; omega)) (tp (by omega) (tl rfl))))
def rowM (s : List Df) (t : Int) (row : List Vl) : Bool := rowOkM (planR (defAt s t)) row
def keyM (s : List Df) (t i : Int) (row : List Vl) : List Int := bif thereM s t i && rowM s t row then keyR s t i row else []
theorem impl_KeyOf.sp {d : Nat} (hd : 10 ≤ d) {s : List Df} (hl : s.length ≤ 140737488351232) (hx : ∀ x ∈ s, dfFit 140737488351232 x) (t i : Int) {row : List Vl} (hr : row.length ≤ 140737488351232) : impl_KeyOf.f d (s, t, i, row) = some (keyM s t i row) := by
 obtain ⟨d, rfl, _⟩ := dep hd
 rw [impl_KeyOf.t_eq]
 dsimp only [impl_KeyOf.m]
 unfold keyM
 refine Tells.eq (tc (impl_hasIndex.sp (by omega) hl hx t i) ?_)
 cases th : thereM s t i with
 | false => exact tt rfl (tl rfl)
 | true =>
 have q := there_iff.1 th
 have rl := planR_len (defAt s t)
 refine tf rfl (tand q.2.1.1 q.2.1.2 (tc (impl_RowPlan.sp (x := defAt s t) (by omega) (hx _ (defAt_mem q.2.1.1 q.2.1.2))) (tc (impl_RowOk.sp (by omega) (by omega) hr) ?_)))
 unfold rowM
 cases rowOkM (planR (defAt s t)) row
 ·exact tt rfl (tl rfl)
 ·exact tf rfl (tc (impl_keyOf.sp (by omega) hl hx th hr) (tl rfl))
abbrev SVl : SS := .cons (.int .i64) (.cons (.int .i64) (.one .str))
theorem vals_fit {l : List Vl} (h : okV (.row SVl) l) : l.length ≤ 140737488351232 ∧ ∀ x ∈ l, x.2.2.size ≤ 140737488351232 :=
 ⟨okRow_len h, fun x hx => (h.2 x hx).2.2⟩
theorem laws_szValS.sp {d : Nat} (hd : 2 ≤ d) {l : List Vl} {left : Int} (h0 : 0 ≤ left) (h1 : left ≤ 1048576) (hl : l.length ≤ 140737488351232) (hx : ∀ x ∈ l, x.2.2.size ≤ 140737488351232) :
  Tells (laws_szValS.f d (l, left)) fun r => r ≤ left ∧ (0 ≤ r → (l.length : Int) + wSum (fun x : Vl => x.2.2.size) l ≤ left - r) := by
 obtain ⟨d, rfl, _⟩ := dep hd
 rw [laws_szValS.t_eq]
 dsimp only [laws_szValS.m]
 rw [wrap_id (by omega) (by omega)]
 refine tif (fun h => tl ⟨by omega, by omega⟩) fun h => ?_
 refine (loopSz (w := fun x : Vl => x.2.2.size) (laws_szValS.S0 d) (by omega) hl (fun L st => ?_) fun L st i Q hi h0 h1 hq ih => ?_).mono fun r hr => ⟨by omega, fun h => by have := hr.2 h; omega⟩
 ·dsimp only [laws_szValS.S0, laws_szValS.s0]
  exact tn (by omega) (tl rfl)
 ·dsimp only [laws_szValS.S0, laws_szValS.s0]
  refine tp (by omega) (ti hi ?_)
  rw [getD_in hi, wrap_succ (by omega)]
  obtain ⟨d, rfl, _⟩ := dep (show 0 + 1 ≤ d by omega)
  rw [laws_szVal.t_eq]
  dsimp only [laws_szVal.m]
  have := hx _ (List.getElem_mem hi)
  rw [wrap_id (by omega) (by omega)]
  refine tb (P := fun a => a ≤ st ∧ (0 ≤ a → (l[i].2.2.size : Int) ≤ st - a)) (tif (fun h => tl ⟨by omega, by omega⟩) fun h => tl ⟨by omega, by omega⟩) fun a ha => tif (fun _ => tl hq) fun h => ih a (by omega) (ha.2 (by omega))
theorem laws_toValS.sp {d : Nat} (hd : 2 ≤ d) {l : List Vl} (hl : l.length ≤ 1048576) : laws_toValS.f d l = some l := by
 obtain ⟨d, rfl, _⟩ := dep hd
 rw [laws_toValS.t_eq]
 dsimp only [laws_toValS.m]
 refine Tells.eq (tt (by simp; omega) ?_)
 have := loopFill (laws_toValS.S0 d) l id (List.replicate (Int.toNat (l.length : Int)) ((0 : Int), (0 : Int), ByteArray.empty)) (by simp) (by omega) (fun L st h => ?_) fun L st i Q hi h ih => ?_
 ·simpa using this
 ·dsimp only [laws_toValS.S0, laws_toValS.s0]
  exact tn (by omega) (tl rfl)
 ·dsimp only [laws_toValS.S0, laws_toValS.s0]
  refine tp (by omega) (ti hi ?_)
  rw [getD_in hi, wrap_succ (by omega)]
  obtain ⟨d, rfl, _⟩ := dep (show 0 + 1 ≤ d by omega)
  rw [laws_toVal.t_eq]
  refine tc rfl (ti (by omega) ?_)
  simpa [show i < st.length by omega] using ih
theorem laws_eqValS.self {d : Nat} (hd : 2 ≤ d) {l : List Vl} (hl : l.length ≤ 140737488351232) : laws_eqValS.f d (l, l) = some true := by
 obtain ⟨d, rfl, _⟩ := dep hd
 rw [laws_eqValS.t_eq]
 refine Tells.eq ?_
 dsimp only [laws_eqValS.m]
 refine tf (by simp) ?_
 refine loopE (laws_eqValS.S0 d) l.length (fun i => (l, l, i)) (fun _ r => r = true) (by omega) (fun L => ?_) fun L i hi ih => ?_
 ·dsimp only [laws_eqValS.S0, laws_eqValS.s0]
  exact tn (by omega) (tl rfl)
 ·dsimp only [laws_eqValS.S0, laws_eqValS.s0]
  refine tp (by omega) (ti hi (ti hi ?_))
  rw [getD_in hi, wrap_succ (by omega)]
  obtain ⟨d, rfl, _⟩ := dep (show 0 + 1 ≤ d by omega)
  rw [laws_eqVal.t_eq]
  dsimp only [laws_eqVal.m]
  refine tb (P := fun a => a = true) (tf (by simp) (tf (by simp) (tf (by simp) (tl rfl)))) fun a ha => ?_
  subst ha
  exact tf rfl ih
open Go Go.Proofs
def rowB (vs : List Vl) : List Int := vs.flatMap fun v => valM v.1 v.2.1 v.2.2
def rowT (st : List Int) (vs : List Vl) : List Int := (st ++ rowB vs) ++ sum4 (crcM (st ++ rowB vs))
def encR (l : List Pt) (vs : List Vl) : List Int := bif rowOkM l vs then rowT (uM vs.length) vs else []
theorem rowB_cons (v : Vl) (vs : List Vl) : rowB (v :: vs) = valM v.1 v.2.1 v.2.2 ++ rowB vs := by unfold rowB; rw [List.flatMap_cons]
theorem rowT_cons (st : List Int) (v : Vl) (vs : List Vl) : rowT st (v :: vs) = rowT (st ++ valM v.1 v.2.1 v.2.2) vs := by
 unfold rowT; rw [rowB_cons, ← List.append_assoc]
theorem zip_mem : ∀ {l : List Pt} {vs : List Vl} {v : Vl}, vs.length ≤ l.length → v ∈ vs → ∃ p, (p, v) ∈ l.zip vs
 | [], v' :: vs, v, h, hv => by simp at h
 | p :: l, v' :: vs, v, h, hv => by
  rw [List.zip_cons_cons]
  rcases List.mem_cons.1 hv with e | hv
  ·exact ⟨p, by rw [e]; exact List.mem_cons_self⟩
  ·obtain ⟨q, hq⟩ := zip_mem (l := l) (by simpa using h) hv
   exact ⟨q, List.mem_cons_of_mem _ hq⟩
theorem rowOk_of {l : List Pt} {vs : List Vl} (h : rowOkM l vs = true) : (∀ p ∈ l, partOkM p.1 p.2.1 = true) ∧ l.length ≤ 6 ∧ vs.length = l.length ∧ (∀ x ∈ l.zip vs, fitP x.1 x.2 = true) ∧ ∀ v ∈ vs, v.2.2.size ≤ 30 := by
 unfold rowOkM at h
 rw [Bool.and_eq_true, Bool.and_eq_true, decide_eq_true_eq] at h
 have a := planOk_of h.1
 have b := fitsAll_of h.2.2
 refine ⟨a.1, a.2, by omega, b.2, fun v hv => ?_⟩
 obtain ⟨p, hp⟩ := zip_mem b.1 hv
 exact (valOk_size (fitP_of (b.2 _ hp)).1).1
theorem impl_EncodeRow.sp {d : Nat} (hd : 6 ≤ d) {l : List Pt} {vs : List Vl} (hl : l.length ≤ 140737488351232) (hv : vs.length ≤ 140737488351232) : impl_EncodeRow.f d (l, vs) = some (encR l vs) := by
 obtain ⟨d, rfl, _⟩ := dep hd
 rw [impl_EncodeRow.t_eq]
 dsimp only [impl_EncodeRow.m]
 unfold encR
 refine Tells.eq (tc (impl_RowOk.sp (by omega) hl hv) ?_)
 cases ok : rowOkM l vs with
 | false => exact tt rfl (tl rfl)
 | true =>
 obtain ⟨_, l6, vl, _, sz⟩ := rowOk_of ok
 refine tf rfl (tc (impl_addU.sp (by omega) (by simp)) ?_)
 rw [List.nil_append]
 have ul := uM_len (vs.length : Int)
 show Tells _ (· = rowT (uM (vs.length : Int)) (vs.drop 0))
 refine loop0 (σ := List Int) (impl_EncodeRow.S0 d) vs.length (fun st i => (vs, (vs.length : Int), i, st)) (fun st i => st.length ≤ 3 + 41 * i ∧ ∀ b ∈ st, 0 ≤ b ∧ b ≤ 255) (fun st i r => r = rowT st (vs.drop i)) _ (by omega) ⟨by omega, uM_bytes _⟩ (fun L st h => ?_) fun L st i h hi ih => ?_
 ·dsimp only [impl_EncodeRow.S0, impl_EncodeRow.s0]
  refine tn (by omega) (tc (impl_addSum.sp (by omega) (by omega) h.2) (tl ?_))
  rw [List.drop_length]; unfold rowT rowB; rw [List.flatMap_nil, List.append_nil]
 ·dsimp only [impl_EncodeRow.S0, impl_EncodeRow.s0]
  have s1 := sz _ (List.getElem_mem hi)
  have vn := valM_len vs[i].1 vs[i].2.1 vs[i].2.2
  have u1 := uM_len vs[i].1
  have go : ∀ Y, Y = st ++ valM vs[i].1 vs[i].2.1 vs[i].2.2 → Tells (L (vs, (vs.length : Int), ((i + 1 : Nat) : Int), Y)) (· = rowT (st ++ valM vs[i].1 vs[i].2.1 vs[i].2.2) (vs.drop (i + 1))) := fun Y e => by
   subst e
   exact ih _ ⟨by rw [List.length_append]; omega, app_bytes h.2 (valM_bytes _ _ _)⟩
  refine tp (by omega) (ti hi ?_)
  rw [getD_in hi, wrap_succ (by omega), drop_at hi, rowT_cons]
  refine tc (impl_addU.sp (by omega) (by omega)) ?_
  refine teq (fun c => teq (fun _ => ?_) fun n => absurd c n) fun c1 => teq (fun c => ?_) fun c2 => teq (fun c => ?_) fun c3 => teq (fun c => ?_) fun c4 => ?_
  ·exact tc (impl_addVar.sp (by omega) (by rw [List.length_append]; omega)) (go _ (by unfold valM; rw [if_pos (.inl c), List.append_assoc]))
  ·exact tc (impl_addVar.sp (by omega) (by rw [List.length_append]; omega)) (go _ (by unfold valM; rw [if_pos (.inr c), List.append_assoc]))
  ·exact tc (impl_addText.sp (by omega) (by rw [List.length_append]; omega) (by omega)) (go _ (by unfold valM; rw [if_neg (by omega), if_pos c, List.append_assoc]))
  ·exact tp (by rw [List.length_append, List.length_singleton]; omega) (go _ (by unfold valM; rw [if_neg (by omega), if_neg c3, if_pos c, List.append_assoc, IntKind.wrap_u8]))
  ·exact go _ (by unfold valM; rw [if_neg (by omega), if_neg c3, if_neg c4, List.append_nil])
theorem spec_EncodeRow.sp {d : Nat} (hd : 6 ≤ d) {l : List Pt} {vs : List Vl} (hl : l.length ≤ 140737488351232) (hv : vs.length ≤ 140737488351232) : spec_EncodeRow.f d (l, vs) = some (encR l vs) := by
 obtain ⟨d, rfl, _⟩ := dep hd
 rw [spec_EncodeRow.t_eq]
 dsimp only [spec_EncodeRow.m]
 unfold encR
 refine Tells.eq (tc (spec_RowOk.sp (by omega) hl hv) ?_)
 cases ok : rowOkM l vs with
 | false => exact tt rfl (tl rfl)
 | true =>
 obtain ⟨_, l6, vl, _, sz⟩ := rowOk_of ok
 refine tf rfl (tc (spec_PutU.sp (by omega) (by simp)) ?_)
 rw [List.nil_append]
 have ul := uM_len (vs.length : Int)
 show Tells _ (· = rowT (uM (vs.length : Int)) (vs.drop 0))
 refine loop0 (σ := List Int) (spec_EncodeRow.S0 d) vs.length (fun st i => (vs, i, st)) (fun st i => st.length ≤ 3 + 41 * i ∧ ∀ b ∈ st, 0 ≤ b ∧ b ≤ 255) (fun st i r => r = rowT st (vs.drop i)) _ (by omega) ⟨by omega, uM_bytes _⟩ (fun L st h => ?_) fun L st i h hi ih => ?_
 ·dsimp only [spec_EncodeRow.S0, spec_EncodeRow.s0]
  refine tn (by omega) (tc (spec_PutSum.sp (by omega) (by omega) h.2) (tl ?_))
  rw [List.drop_length]; unfold rowT rowB; rw [List.flatMap_nil, List.append_nil]
 ·dsimp only [spec_EncodeRow.S0, spec_EncodeRow.s0]
  have s1 := sz _ (List.getElem_mem hi)
  have vn := valM_len vs[i].1 vs[i].2.1 vs[i].2.2
  have u1 := uM_len vs[i].1
  have go : ∀ Y, Y = st ++ valM vs[i].1 vs[i].2.1 vs[i].2.2 → Tells (L (vs, ((i + 1 : Nat) : Int), Y)) (· = rowT (st ++ valM vs[i].1 vs[i].2.1 vs[i].2.2) (vs.drop (i + 1))) := fun Y e => by
   subst e
   exact ih _ ⟨by rw [List.length_append]; omega, app_bytes h.2 (valM_bytes _ _ _)⟩
  refine tp (by omega) (ti hi ?_)
  rw [getD_in hi, wrap_succ (by omega), drop_at hi, rowT_cons]
  refine tc (spec_PutU.sp (by omega) (by omega)) ?_
  refine teq (fun c => teq (fun _ => ?_) fun n => absurd c n) fun c1 => teq (fun c => ?_) fun c2 => teq (fun c => ?_) fun c3 => teq (fun c => ?_) fun c4 => ?_
  ·exact tc (spec_PutVar.sp (by omega) (by rw [List.length_append]; omega)) (go _ (by unfold valM; rw [if_pos (.inl c), List.append_assoc]))
  ·exact tc (spec_PutVar.sp (by omega) (by rw [List.length_append]; omega)) (go _ (by unfold valM; rw [if_pos (.inr c), List.append_assoc]))
  ·exact tc (spec_PutText.sp (by omega) (by rw [List.length_append]; omega) (by omega)) (go _ (by unfold valM; rw [if_neg (by omega), if_pos c, List.append_assoc]))
  ·exact tp (by rw [List.length_append, List.length_singleton]; omega) (go _ (by unfold valM; rw [if_neg (by omega), if_neg c3, if_pos c, List.append_assoc, IntKind.wrap_u8]))
  ·exact go _ (by unfold valM; rw [if_neg (by omega), if_neg c3, if_neg c4, List.append_nil])
def longR (f : Int → Nat) (e : Bool) : Nat → Int → Bool
 | 0, _ => e
 | k + 1, i => bif decide ((f i : Int) > 48) then true else longR f e k (i + 1)
theorem longR_none {f : Int → Nat} (h : ∀ i, f i = 0) : ∀ k i, longR f false k i = false
 | 0, _ => rfl
 | k + 1, i => by rw [longR, h, decide_eq_false (by omega), cond_false, longR_none h]
def lastM (s : List Df) (t : Int) (row : List Vl) : Bool := decide (((encR (planR (defAt s t)) row).length : Int) > 60)
def longM (s : List Df) (t : Int) (row : List Vl) : Bool := bif thereM s t (-1) then longR (fun i => (keyM s t i row).length) (lastM s t row) ((defAt s t).2.2.2.length + 1) (-1) else false
theorem there_at {s : List Df} {t i : Int} (h : thereM s t (-1) = true) (h0 : -1 ≤ i) (h1 : i < (defAt s t).2.2.2.length) : thereM s t i = true := by
 have q := there_iff.1 h
 exact there_iff.2 ⟨q.1, q.2.1, h0, h1⟩
theorem impl_LongKey.sp {d : Nat} (hd : 11 ≤ d) {s : List Df} (hl : s.length ≤ 140737488351232) (hx : ∀ x ∈ s, dfFit 140737488351232 x) (t : Int) {row : List Vl} (hr : row.length ≤ 140737488351232) : impl_LongKey.f d (s, t, row) = some (longM s t row) := by
 obtain ⟨d, rfl, _⟩ := dep hd
 rw [impl_LongKey.t_eq]
 dsimp only [impl_LongKey.m]
 unfold longM
 refine Tells.eq (tc (impl_hasIndex.sp (by omega) hl hx t (-1)) ?_)
 cases th : thereM s t (-1) with
 | false => exact tt rfl (tl rfl)
 | true =>
 have q := there_iff.1 th
 have m := hx _ (defAt_mem q.2.1.1 q.2.1.2)
 have xl := m.2.2.2.1
 have rl := planR_len (defAt s t)
 refine tf rfl ?_
 suffices g : Tells (iter (impl_LongKey.S0 d) rnds (s, t, row, ((0 : Int) - 1))) (· = longR (fun i => (keyM s t i row).length) (lastM s t row) ((defAt s t).2.2.2.length + 1 - 0) (((0 : Nat) : Int) - 1)) from g
 refine loopE (impl_LongKey.S0 d) ((defAt s t).2.2.2.length + 1) (fun i => (s, t, row, i - 1)) (fun j r => r = longR (fun i => (keyM s t i row).length) (lastM s t row) ((defAt s t).2.2.2.length + 1 - j) ((j : Int) - 1)) (by omega) (fun L => ?_) fun L j hj ih => ?_
 ·dsimp only [impl_LongKey.S0, impl_LongKey.s0]
  refine tand q.2.1.1 q.2.1.2 (tn (show ¬ ((((defAt s t).2.2.2.length + 1 : Nat) : Int) - 1 < ((defAt s t).2.2.2.length : Int)) by omega) (tand q.2.1.1 q.2.1.2 (tc (impl_RowPlan.sp (x := defAt s t) (by omega) m) (tc (impl_EncodeRow.sp (by omega) (by omega) hr) (tl ?_)))))
  rw [Nat.sub_self]; rfl
 ·dsimp only [impl_LongKey.S0, impl_LongKey.s0]
  have e : (defAt s t).2.2.2.length + 1 - j = ((defAt s t).2.2.2.length + 1 - (j + 1)) + 1 := by omega
  rw [e, longR, wrap_id (by omega) (by omega)]
  refine tand q.2.1.1 q.2.1.2 (tp (show (j : Int) - 1 < ((defAt s t).2.2.2.length : Int) by omega) (tc (impl_KeyOf.sp (by omega) hl hx t _ hr) (tif (fun c => tl ?_) fun c => ?_)))
  ·rw [decide_eq_true c]; rfl
  ·rw [decide_eq_false c, cond_false]
   rw [show ((j + 1 : Nat) : Int) - 1 = (j : Int) - 1 + 1 by omega] at ih
   exact ih
theorem spec_LongKey.sp {d : Nat} (hd : 11 ≤ d) {s : List Df} (hl : s.length ≤ 140737488351232) (hx : ∀ x ∈ s, dfFit 140737488351232 x) (t : Int) {row : List Vl} (hr : row.length ≤ 140737488351232) : spec_LongKey.f d (s, t, row) = some (longM s t row) := by
 obtain ⟨d, rfl, _⟩ := dep hd
 rw [spec_LongKey.t_eq]
 dsimp only [spec_LongKey.m]
 unfold longM
 refine Tells.eq (tc (spec_l11There.sp (by omega) hl hx t (-1)) ?_)
 cases th : thereM s t (-1) with
 | false => exact tt rfl (tl rfl)
 | true =>
 have q := there_iff.1 th
 have m := hx _ (defAt_mem q.2.1.1 q.2.1.2)
 have xl := m.2.2.2.1
 have rl := planR_len (defAt s t)
 refine tf rfl (tand q.2.1.1 q.2.1.2 (tc (spec_RowPlan.sp (x := defAt s t) (by omega) m) (tc (spec_RowOk.sp (by omega) (by omega) hr) ?_)))
 cases ok : rowOkM (planR (defAt s t)) row with
 | false =>
  refine tt rfl (tl ?_)
  have e : lastM s t row = false := by unfold lastM encR; rw [ok]; rfl
  rw [e, cond_true]
  refine (longR_none (fun i => ?_) _ _).symm
  unfold keyM rowM
  rw [ok, Bool.and_false]; rfl
 | true =>
 refine tf rfl ?_
 suffices g : Tells (iter (spec_LongKey.S0 d) rnds (s, t, row, ((0 : Int) - 1))) (· = longR (fun i => (keyM s t i row).length) (lastM s t row) ((defAt s t).2.2.2.length + 1 - 0) (((0 : Nat) : Int) - 1)) from g
 refine loopE (spec_LongKey.S0 d) ((defAt s t).2.2.2.length + 1) (fun i => (s, t, row, i - 1)) (fun j r => r = longR (fun i => (keyM s t i row).length) (lastM s t row) ((defAt s t).2.2.2.length + 1 - j) ((j : Int) - 1)) (by omega) (fun L => ?_) fun L j hj ih => ?_
 ·dsimp only [spec_LongKey.S0, spec_LongKey.s0]
  refine tand q.2.1.1 q.2.1.2 (tn (show ¬ ((((defAt s t).2.2.2.length + 1 : Nat) : Int) - 1 < ((defAt s t).2.2.2.length : Int)) by omega) (tand q.2.1.1 q.2.1.2 (tc (spec_RowPlan.sp (x := defAt s t) (by omega) m) (tc (spec_EncodeRow.sp (by omega) (by omega) hr) (tl ?_)))))
  rw [Nat.sub_self]; rfl
 ·dsimp only [spec_LongKey.S0, spec_LongKey.s0]
  have e : (defAt s t).2.2.2.length + 1 - j = ((defAt s t).2.2.2.length + 1 - (j + 1)) + 1 := by omega
  have th2 : thereM s t ((j : Int) - 1) = true := there_at th (by omega) (by omega)
  have ek : keyM s t ((j : Int) - 1) row = keyR s t ((j : Int) - 1) row := by unfold keyM rowM; rw [th2, ok]; rfl
  rw [e, longR, wrap_id (by omega) (by omega), ek]
  refine tand q.2.1.1 q.2.1.2 (tp (show (j : Int) - 1 < ((defAt s t).2.2.2.length : Int) by omega) (tc (spec_l11Key.sp (by omega) hl hx th2 hr) (tif (fun c => tl ?_) fun c => ?_)))
  ·rw [decide_eq_true c]; rfl
  ·rw [decide_eq_false c, cond_false]
   rw [show ((j + 1 : Nat) : Int) - 1 = (j : Int) - 1 + 1 by omega] at ih
   exact ih
theorem laws_FnExactLongKey.pure {d : Nat} (hd : 12 ≤ d) {s : List Df} {t : Int} {row : List Vl} (h1 : okV (.row SDf) s) (_ : okV (.int .i64) t) (h2 : okV (.row SVl) row) : laws_FnExactLongKey.f d (s, t, row) = some true := by
 obtain ⟨d, rfl, _⟩ := dep hd
 rw [laws_FnExactLongKey.t_eq]
 dsimp only [laws_FnExactLongKey.m]
 obtain ⟨hl, hx⟩ := dfs_fit h1
 obtain ⟨vl, vx⟩ := vals_fit h2
 refine Tells.eq (tb (laws_szDefS.sp (by omega) (by omega) (by omega) hl hx) fun r hr => tif (fun _ => tl rfl) fun h => ?_)
 have sm := hr.2 (by omega)
 refine tb (laws_szValS.sp (by omega) (by omega) (by omega) vl vx) fun r2 hr2 => tif (fun _ => tl rfl) fun h2 => ?_
 have sm2 := hr2.2 (by omega)
 have fit := dfs_small sm (by omega)
 have td := laws_toDefS.sp (d := d) (by omega) fit.1 fit.2
 have tv := laws_toValS.sp (d := d) (l := row) (by omega) (by omega)
 have rs := spec_LongKey.sp (d := d) (by omega) hl hx t vl
 have ri := impl_LongKey.sp (d := d) (by omega) hl hx t vl
 refine tc td (tc tv (tc rs (tc td (tc tv (tc ri (tf (by simp) ?_))))))
 exact tc td (tc (laws_eqDefS.self (by omega) hl hx) (tf rfl (tc tv (tc (laws_eqValS.self (by omega) vl) (tf rfl (tl rfl))))))
end Go.PV.T
