/- Functions of the program by their own lists and numbers. No condition beyond those in each statement. -/
import Derived.Test.YthadcmcdbcfjaaaGreatDoorPvRKx3
import Derived.Lib.Join
import Derived.KernelRfl
set_option linter.unusedVariables false
set_option linter.unusedSimpArgs false
set_option linter.unusedVariables false
namespace Go.PV.T
open Go Go.Proofs
theorem in_def (a lo hi : Int) : (bif decide (a ≥ lo) then some (decide (a ≤ hi)) else some false) = some (inB a lo hi) := by
 by_cases h : lo ≤ a <;> simp [inB, h]
theorem impl_in.sp {d : Nat} (hd : 1 ≤ d) (a lo hi : Int) : impl_in.f d (a, lo, hi) = some (inB a lo hi) := by
 obtain ⟨d, rfl, hd⟩ := dep hd
 rw [impl_in.t_eq]
 exact in_def a lo hi
theorem spec_l1In.sp {d : Nat} (hd : 1 ≤ d) (a lo hi : Int) : spec_l1In.f d (a, lo, hi) = some (inB a lo hi) := by
 obtain ⟨d, rfl, hd⟩ := dep hd
 rw [spec_l1In.t_eq]
 exact in_def a lo hi
def fOk (x : Int × Int × Int) : Bool := inB x.1 0 100000 && (inB x.2.1 0 1048575 && inB x.2.2 0 256)
def faultsM : Option (Int × Int × Int) → List (Int × Int × Int) → Bool
 | _, [] => true
 | p, x :: r => fOk x && (match p with
  | none => faultsM (some x) r
  | some y => !decide (y.1 ≥ x.1) && faultsM (some x) r)
abbrev Dk := (List (List Int)) × (List (Int × (List Int))) × Int × (List (Int × Int × Int)) × Bool
def dkFit (x : Dk) : Prop := (x.1.length ≤ 140737488351232 ∧ ∀ y ∈ x.1, y.length ≤ 140737488351232) ∧ (x.2.1.length ≤ 140737488351232 ∧ ∀ y ∈ x.2.1, y.2.length ≤ 140737488351232) ∧ x.2.2.2.1.length ≤ 140737488351232
def ww (x : Int × List Int) : Nat := x.2.length + 1
def dkW (x : Dk) : Nat := wSum List.length x.1 + wSum ww x.2.1 + wSum (fun _ : Int × Int × Int => 3) x.2.2.2.1
def dkOk (x : Dk) : Prop := okV (.row (.one (.row (.one (.int .u8))))) x.1 ∧ okV (.row (.cons (.int .i64) (.one (.row (.one (.int .u8)))))) x.2.1 ∧ okV (.row (.cons (.int .i64) (.cons (.int .i64) (.one (.int .i64))))) x.2.2.2.1
theorem okRow_len {cs : SS} {l : List cs.T} (h : okV (.row cs) l) : l.length ≤ 140737488351232 := Nat.le_trans (Nat.le_mul_of_pos_right _ (SS.size_pos cs)) h.1
theorem dkOk.fit {x : Dk} (h : dkOk x) : dkFit x :=
 ⟨⟨okRow_len h.1, fun y hy => okRow_len (h.1.2 y hy)⟩, ⟨okRow_len (cs := .cons (.int .i64) (.one (.row (.one (.int .u8))))) h.2.1, fun y hy => okRow_len (h.2.1.2 y hy).2⟩, okRow_len (cs := .cons (.int .i64) (.cons (.int .i64) (.one (.int .i64)))) h.2.2⟩
def dkSm (x : Dk) : Prop := (x.1.length ≤ 1048576 ∧ ∀ y ∈ x.1, y.length ≤ 1048576) ∧ (x.2.1.length ≤ 1048576 ∧ ∀ y ∈ x.2.1, y.2.length ≤ 1048576) ∧ x.2.2.2.1.length ≤ 1048576 ∧ dkW x ≤ 10000000
theorem sum_three (l : List (Int × Int × Int)) : wSum (fun _ : Int × Int × Int => 3) l = 3 * l.length := by
 induction l with
 | nil => rfl
 | cons y l ih => rw [wSum_cons, ih, List.length_cons]; omega
theorem dkSm.fit {x : Dk} (h : dkSm x) : dkFit x := ⟨⟨by have := h.1.1; omega, fun y hy => by have := h.1.2 y hy; omega⟩, ⟨by have := h.2.1.1; omega, fun y hy => by have := h.2.1.2 y hy; omega⟩, by have := h.2.2.1; omega⟩
theorem impl_copyBytes.sp {d : Nat} (hd : 1 ≤ d) {l : List Int} (hl : l.length ≤ 140737488351232) : impl_copyBytes.f d l = some l := by
 obtain ⟨d, rfl, _⟩ := dep hd
 rw [impl_copyBytes.t_eq]
 dsimp only [impl_copyBytes.m]
 exact Tells.eq (tp (by simp only [List.length_nil, Nat.zero_add]; omega) (tl rfl))
def wrIn (n : Nat) (ws : List (Int × List Int)) : Prop := ∀ w ∈ ws, 0 ≤ w.1 ∧ w.1 < n ∧ w.2.length ≤ 1048576
def dkGood (x : Dk) : Prop := dkSm x ∧ wrIn x.1.length x.2.1 ∧ (∀ f ∈ x.2.2.2.1, 0 ≤ f.2.2) ∧ x.2.2.1 ≤ 1000000000 ∧ -1000000000 ≤ x.2.2.1
theorem wSum_le {β : Type} {w : β → Nat} {k : Nat} : ∀ {l : List β}, (∀ x ∈ l, w x ≤ k) → wSum w l ≤ l.length * k
 | [], _ => Nat.zero_le _
 | x :: l, h => by
  have := wSum_le (l := l) fun y hy => h y (by simp [hy])
  have h0 := h x (by simp)
  rw [wSum_cons, List.length_cons, Nat.add_mul]
  omega
def dkB (x : Dk) : Prop := (x.1.length ≤ 1048577 ∧ ∀ y ∈ x.1, y.length ≤ 1048577) ∧ (x.2.1.length ≤ 1048577 ∧ ∀ y ∈ x.2.1, y.2.length ≤ 1048577) ∧ x.2.2.2.1.length ≤ 1048577
theorem dkB.fit {x : Dk} (h : dkB x) : dkFit x := ⟨⟨by have := h.1.1; omega, fun y hy => by have := h.1.2 y hy; omega⟩, ⟨by have := h.2.1.1; omega, fun y hy => by have := h.2.1.2 y hy; omega⟩, by have := h.2.2; omega⟩
theorem xx_u32 {a b : Nat} (ha : a < 2 ^ 32) (hb : b < 2 ^ 32) : IntKind.wrap IntKind.u32 ((BitVec.ofInt (IntKind.bits IntKind.u32) (a : Int) ^^^ BitVec.ofInt (IntKind.bits IntKind.u32) (b : Int)).toNat : Int) = ((a ^^^ b : Nat) : Int) := xor_u32 a b ha hb
theorem xx_i64 {a b : Nat} (ha : a < 2 ^ 32) (hb : b < 2 ^ 32) : IntKind.wrap IntKind.i64 ((BitVec.ofInt (IntKind.bits IntKind.i64) (a : Int) ^^^ BitVec.ofInt (IntKind.bits IntKind.i64) (b : Int)).toNat : Int) = ((a ^^^ b : Nat) : Int) := xor_i64 a b ha hb
theorem a1_u32 {a : Nat} (ha : a < 2 ^ 32) : IntKind.wrap IntKind.u32 ((BitVec.ofInt (IntKind.bits IntKind.u32) (a : Int) &&& BitVec.ofInt (IntKind.bits IntKind.u32) (1 : Int)).toNat : Int) = (a : Int) % 2 := and1_u32 a ha
theorem a1_i64 {a : Nat} (ha : a < 2 ^ 32) : IntKind.wrap IntKind.i64 ((BitVec.ofInt (IntKind.bits IntKind.i64) (a : Int) &&& BitVec.ofInt (IntKind.bits IntKind.i64) (1 : Int)).toNat : Int) = (a : Int) % 2 := and1_i64 a ha
theorem half (a : Nat) (k : Nat) (hk : 1 ≤ k) : Int.fdiv (a : Int) (2 ^ (min (Int.toNat (1 : Int)) k)) = ((a / 2 : Nat) : Int) := by
 rw [show min (Int.toNat (1 : Int)) k = 1 by simp; omega, show (2 : Int) ^ 1 = 2 from rfl, Int.fdiv_eq_ediv_of_nonneg _ (by omega)]
 omega
theorem eight {A R : Type} (s : (A → Option R) → A → Option R) (mk : Nat → Int → A) (P : R → Prop) {x : Nat} (hx : x < 2 ^ 32)
  (base : ∀ L, Tells (s L (mk (crcN 8 x) 8)) P)
  (step : ∀ L (y j : Nat) Q, y < 2 ^ 32 → j < 8 → Tells (L (mk (crcStep y) ((j + 1 : Nat) : Int))) Q → Tells (s L (mk y (j : Int))) Q) : Tells (iter s rnds (mk x 0)) P := by
 refine loop0 (σ := Nat) s 8 mk (fun y j => y < 2 ^ 32 ∧ crcN (8 - j) y = crcN 8 x) (fun _ _ => P) x (by omega) ⟨hx, rfl⟩ ?_ ?_
 ·rintro L y ⟨_, h⟩
  have : y = crcN 8 x := h
  rw [this]
  exact base L
 ·rintro L y j ⟨h1, h2⟩ hj ih
  refine step L y j _ h1 hj (ih _ ⟨crcStep_lt h1, ?_⟩)
  rw [← h2, show 8 - j = (8 - (j + 1)) + 1 by omega]
  rfl
theorem byte_wrap_u32 {b : Int} (h0 : 0 ≤ b) (h1 : b ≤ 255) : IntKind.wrap IntKind.u32 b = ((b.toNat : Nat) : Int) := by
 rw [wraps_u32 b h0 (by omega)]; omega
theorem byte_wrap_i64 {b : Int} (h0 : 0 ≤ b) (h1 : b ≤ 255) : IntKind.wrap IntKind.i64 b = ((b.toNat : Nat) : Int) := by
 rw [wrap_id (by omega) (by omega)]; omega
theorem impl_Crc.sp {d : Nat} (hd : 1 ≤ d) {l : List Int} (hl : l.length ≤ 140737488355328) (hb : ∀ b ∈ l, 0 ≤ b ∧ b ≤ 255) : impl_Crc.f d l = some (crcM l) := by
 obtain ⟨d, rfl, _⟩ := dep hd
 rw [impl_Crc.t_eq]
 dsimp only [impl_Crc.m]
 refine Tells.eq ?_
 refine loop0 (σ := Nat) (impl_Crc.S0 d) l.length (fun x i => ((x : Int), l, (l.length : Int), i)) (fun x _ => x < 2 ^ 32) (fun x i r => r = ((crcFold x (l.drop i) ^^^ 4294967295 : Nat) : Int)) 4294967295 (by omega) (by decide) ?_ ?_
 ·intro L x hx
  dsimp only [impl_Crc.S0, impl_Crc.s0]
  refine tn (by omega) (tl ?_)
  have e : (if IntKind.signed IntKind.u32 = true then (-1 : Int) else IntKind.max IntKind.u32) = ((4294967295 : Nat) : Int) := by decide
  rw [e, xx_u32 (by decide) hx, List.drop_length]
  have := Nat.xor_lt_two_pow (show 4294967295 < 2 ^ 32 by decide) hx
  rw [wrap_id (by omega) (by omega)]
  show _ = ((x ^^^ 4294967295 : Nat) : Int)
  rw [Nat.xor_comm]
 ·intro L x i hx hi ih
  have hbb := hb _ (List.getElem_mem hi)
  dsimp only [impl_Crc.S0, impl_Crc.s0]
  rw [drop_at hi, getD_in hi, byte_wrap_u32 hbb.1 hbb.2, xx_u32 hx (by omega)]
  refine tp (by omega) (ti hi ?_)
  refine eight (impl_Crc.S2 d L) (fun y j => ((y : Int), l, (l.length : Int), (i : Int), j)) _ (Nat.xor_lt_two_pow hx (by omega)) (fun L2 => ?_) fun L2 y j Q hy hj ih2 => ?_
  ·dsimp only [impl_Crc.S2, impl_Crc.s2]
   rw [wrap_succ (by omega)]
   exact tn (by omega) (ih (crcByte x l[i]) (crcByte_lt hx hbb.2))
  ·dsimp only [impl_Crc.S2, impl_Crc.s2]
   rw [a1_u32 hy, half y _ (by decide), wrap_succ (by omega), show ((2197175160 : Int)) = ((2197175160 : Nat) : Int) from rfl, xx_u32 (by omega) (by decide)]
   unfold crcStep at ih2
   refine tp (by omega) (tp (by decide) (tbif (fun h => ?_) fun h => ?_))
   ·have : (y : Int) % 2 = 1 := by simpa using h
    rwa [if_pos (by omega)] at ih2
   ·have : ¬ (y : Int) % 2 = 1 := by simpa using h
    rwa [if_neg (by omega)] at ih2
theorem spec_Crc.sp {d : Nat} (hd : 1 ≤ d) {l : List Int} (hl : l.length ≤ 140737488355328) (hb : ∀ b ∈ l, 0 ≤ b ∧ b ≤ 255) : spec_Crc.f d l = some (crcM l) := by
 obtain ⟨d, rfl, _⟩ := dep hd
 rw [spec_Crc.t_eq]
 dsimp only [spec_Crc.m]
 refine Tells.eq ?_
 refine loop0 (σ := Nat) (spec_Crc.S0 d) l.length (fun x i => (l, (x : Int), i)) (fun x _ => x < 2 ^ 32) (fun x i r => r = ((crcFold x (l.drop i) ^^^ 4294967295 : Nat) : Int)) 4294967295 (by omega) (by decide) ?_ ?_
 ·intro L x hx
  dsimp only [spec_Crc.S0, spec_Crc.s0]
  refine tn (by omega) (tl ?_)
  rw [show ((4294967295 : Int)) = ((4294967295 : Nat) : Int) from rfl, xx_i64 hx (by decide), List.drop_length]
  rfl
 ·intro L x i hx hi ih
  have hbb := hb _ (List.getElem_mem hi)
  dsimp only [spec_Crc.S0, spec_Crc.s0]
  rw [drop_at hi, getD_in hi, byte_wrap_i64 hbb.1 hbb.2, xx_i64 hx (by omega)]
  refine tp (by omega) (ti hi ?_)
  refine eight (spec_Crc.S2 d L) (fun y j => (l, (y : Int), (i : Int), j)) _ (Nat.xor_lt_two_pow hx (by omega)) (fun L2 => ?_) fun L2 y j Q hy hj ih2 => ?_
  ·dsimp only [spec_Crc.S2, spec_Crc.s2]
   rw [wrap_succ (by omega)]
   exact tn (by omega) (ih (crcByte x l[i]) (crcByte_lt hx hbb.2))
  ·dsimp only [spec_Crc.S2, spec_Crc.s2]
   rw [a1_i64 hy, half y _ (by decide), wrap_succ (by omega), show ((2197175160 : Int)) = ((2197175160 : Nat) : Int) from rfl, xx_i64 (by omega) (by decide)]
   unfold crcStep at ih2
   refine tp (by omega) (tp (by decide) (tbif (fun h => ?_) fun h => ?_))
   ·have : (y : Int) % 2 = 1 := by simpa using h
    rwa [if_pos (by omega)] at ih2
   ·have : ¬ (y : Int) % 2 = 1 := by simpa using h
    rwa [if_neg (by omega)] at ih2
theorem impl_clamp.sp {d : Nat} (hd : 1 ≤ d) (n : Int) : impl_clamp.f d (n, 0, 1000000) = some (clampU n) := by
 obtain ⟨d, rfl, _⟩ := dep hd
 rw [impl_clamp.t_eq]
 dsimp only [impl_clamp.m]
 rw [clampU_mx]
 rfl
theorem u8_id {x : Int} (h0 : 0 ≤ x) (h1 : x ≤ 255) : IntKind.wrap IntKind.u8 x = x := by
 rw [IntKind.wrap_u8]; omega
theorem impl_addU.sp {d : Nat} (hd : 2 ≤ d) {l : List Int} {n : Int} (hl : l.length ≤ 100000000000) : impl_addU.f d (l, n) = some (l ++ uM n) := by
 obtain ⟨d, rfl, _⟩ := dep hd
 rw [impl_addU.t_eq]
 dsimp only [impl_addU.m]
 refine Tells.eq (tc (impl_clamp.sp (by omega) n) ?_)
 have hc := clampU_bd n
 unfold uM
 generalize clampU n = m at hc
 have last : ∀ (m : Int) (s : List Int) k, 0 ≤ m → m ≤ 127 → s.length ≤ 100000000010 → Tells (iter (impl_addU.S0 d) (k + 1) (m, s)) (· = s ++ [m]) := fun m s k h0 h1 h2 => by
  simp only [iter]
  dsimp only [impl_addU.S0, impl_addU.s0]
  rw [u8_id h0 (by omega)]
  exact tn (by omega) (tp (by simp; omega) (tl rfl))
 have more : ∀ (m : Int) (s : List Int) k Q, 127 < m → m ≤ 1000000 → s.length ≤ 100000000010 → Tells (iter (impl_addU.S0 d) k (m / 128, s ++ [m % 128 + 128])) Q → Tells (iter (impl_addU.S0 d) (k + 1) (m, s)) Q := fun m s k Q h0 h1 h2 ih => by
  simp only [iter]
  dsimp only [impl_addU.S0, impl_addU.s0]
  rw [Int.tmod_eq_emod_of_nonneg (by omega), Int.tdiv_eq_ediv_of_nonneg (by omega), wrap_id (x := m % 128 + 128) (by omega) (by omega), wrap_id (x := m / 128) (by omega) (by omega), u8_id (by omega) (by omega)]
  exact tp (by omega) (tp (by decide) (tp (by simp; omega) (tp (by decide) ih)))
 obtain ⟨k, hk⟩ : ∃ k, rnds = k + 1 + 1 + 1 := ⟨rnds - 3, by have := rnds_gt (n := 3) (by omega); omega⟩
 rw [hk]
 unfold groups
 by_cases c : m > 127
 ·rw [if_pos c]
  refine more _ _ _ _ c hc.2 (by omega) ?_
  by_cases c2 : m / 128 > 127
  ·rw [if_pos c2]
   refine more _ _ _ _ c2 (by omega) (by simp; omega) ?_
   have e : m / 128 / 128 = m / 16384 := by omega
   rw [e]
   exact (last _ _ _ (by omega) (by omega) (by simp; omega)).mono fun r hr => by rw [hr]; simp
  ·rw [if_neg c2]
   exact (last _ _ _ (by omega) (by omega) (by simp; omega)).mono fun r hr => by rw [hr]; simp
 ·rw [if_neg c]
  exact last _ _ _ (by omega) (by omega) (by omega)
theorem impl_addText.sp {d : Nat} (hd : 3 ≤ d) {l : List Int} {s : ByteArray} (hl : l.length ≤ 100000000000) (hs : s.size ≤ 1000000000) : impl_addText.f d (l, s) = some (l ++ txtM s) := by
 obtain ⟨d, rfl, _⟩ := dep hd
 rw [impl_addText.t_eq]
 dsimp only [impl_addText.m]
 have := uM_len s.size
 refine Tells.eq (tc (impl_addU.sp (by omega) hl) (tp ?_ (tl ?_)))
 ·have h2 : (strNums s).length = s.size := by simp [strNums]
  rw [h2, List.length_append]; omega
 ·unfold txtM
  rw [List.append_assoc]
theorem shr8 (c : Int) (k : Int) (j : Nat) (hk : k = 8 * (j : Int)) (hj : j ≤ 7) : Int.fdiv c (2 ^ (min (Int.toNat k) (IntKind.bits IntKind.i64))) = c / 256 ^ j := by
 subst hk
 exact shr_at c j hj
theorem impl_addSum.sp {d : Nat} (hd : 2 ≤ d) {l : List Int} (hl : l.length ≤ 100000000000) (hb : ∀ b ∈ l, 0 ≤ b ∧ b ≤ 255) : impl_addSum.f d l = some (l ++ sum4 (crcM l)) := by
 obtain ⟨d, rfl, _⟩ := dep hd
 rw [impl_addSum.t_eq]
 dsimp only [impl_addSum.m]
 refine Tells.eq (tc (impl_Crc.sp (by omega) (by omega) hb) (tp (by decide) (tp (by decide) (tp (by decide) (tp ?_ (tl ?_))))))
 ·simp only [List.length_cons, List.length_nil]; omega
 ·have hc := crcM_bd l fun b h => (hb b h).2
  rw [shr8 _ 24 3 rfl (by omega), shr8 _ 16 2 rfl (by omega), shr8 _ 8 1 rfl (by omega)]
  simp only [IntKind.wrap_u8, sum4]
  rfl
theorem and_le_nat (x : Int) (n : Nat) (hn : n < 2 ^ 62) : 0 ≤ Go.bits .and .i64 x (n : Int) ∧ Go.bits .and .i64 x (n : Int) ≤ n := by
 have e : (BitVec.ofInt IntKind.i64.bits ((n : Nat) : Int)).toNat = n := by
  rw [BitVec.ofInt_natCast, BitVec.toNat_ofNat]
  exact Nat.mod_eq_of_lt (Nat.lt_of_lt_of_le hn (Nat.pow_le_pow_right (by decide) (by decide)))
 have h : (BitVec.ofInt IntKind.i64.bits x &&& BitVec.ofInt IntKind.i64.bits ((n : Nat) : Int)).toNat ≤ n := by
  rw [BitVec.toNat_and, e]
  exact Nat.and_le_right
 have g : Go.bits .and .i64 x (n : Int) = IntKind.i64.wrap ((BitVec.ofInt IntKind.i64.bits x &&& BitVec.ofInt IntKind.i64.bits ((n : Nat) : Int)).toNat : Int) := rfl
 rw [g, IntKind.wrap_i64]
 omega
theorem low_byte (x : Int) : 0 ≤ IntKind.wrap IntKind.i64 ((BitVec.ofInt (IntKind.bits IntKind.i64) x &&& BitVec.ofInt (IntKind.bits IntKind.i64) (255 : Int)).toNat : Int) ∧ IntKind.wrap IntKind.i64 ((BitVec.ofInt (IntKind.bits IntKind.i64) x &&& BitVec.ofInt (IntKind.bits IntKind.i64) (255 : Int)).toNat : Int) ≤ 255 := and_le_nat x 255 (by decide)
def cur (b : List Int) (p : Int) : Prop := b.length ≤ 1048576 ∧ 0 ≤ p ∧ p ≤ b.length
theorem spec_l1New.sp {d : Nat} (hd : 1 ≤ d) {b : List Int} (hl : b.length ≤ 1048576) : Tells (spec_l1New.f d b) fun r => r.1 = b ∧ cur b r.2.1 := by
 obtain ⟨d, rfl, _⟩ := dep hd
 rw [spec_l1New.t_eq]
 dsimp only [spec_l1New.m]
 refine loop0 (σ := Int) (spec_l1New.S0 d) (min b.length 4000) (fun x i => (b, x, i)) (fun _ _ => True) (fun _ _ r => r.1 = b ∧ cur b r.2.1) _ (by omega) trivial ?_ ?_
 ·intro L x _
  have hc : cur b 0 := ⟨hl, by omega, by omega⟩
  dsimp only [spec_l1New.S0, spec_l1New.s0]
  exact tif (fun _ => tif (fun _ => ti (by omega) (by omega)) fun _ => tl ⟨rfl, hc⟩) fun _ => tl ⟨rfl, hc⟩
 ·intro L x i _ hi ih
  dsimp only [spec_l1New.S0, spec_l1New.s0]
  refine tp (by omega) (tp (by omega) (ti (by omega) ?_))
  rw [wrap_succ (by omega)]
  exact ih _ trivial
theorem spec_l1Byte.sp {d : Nat} (hd : 1 ≤ d) {b : List Int} {p x : Int} (hc : cur b p) : Tells (spec_l1Byte.f d (b, p, x)) fun r => 0 ≤ r.1 ∧ r.1 ≤ 255 ∧ cur b r.2.1 := by
 obtain ⟨d, rfl, _⟩ := dep hd
 rw [spec_l1Byte.t_eq]
 dsimp only [spec_l1Byte.m]
 obtain ⟨h1, h2, h3⟩ := hc
 refine tp (by decide) (tp (by decide) (tif (fun c => tt (by rw [decide_eq_true h2, decide_eq_true c]; rfl) (tl ?_)) fun c => tl ?_))
 ·refine ⟨(low_byte _).1, (low_byte _).2, h1, ?_⟩
  show 0 ≤ IntKind.wrap IntKind.i64 (p + 1) ∧ IntKind.wrap IntKind.i64 (p + 1) ≤ (b.length : Int)
  rw [wrap_id (x := p + 1) (by omega) (by omega)]
  omega
 ·exact ⟨(low_byte _).1, (low_byte _).2, h1, h2, h3⟩
theorem spec_l1Below.sp {d : Nat} (hd : 2 ≤ d) {b : List Int} {p x n : Int} (hc : cur b p) : Tells (spec_l1Below.f d (b, p, x, n)) fun r => 0 ≤ r.1 ∧ (0 < n → r.1 < n) ∧ cur b r.2.1 := by
 obtain ⟨d, rfl, _⟩ := dep hd
 rw [spec_l1Below.t_eq]
 dsimp only [spec_l1Below.m]
 refine tif (fun c => tl ⟨by omega, fun h => by omega, hc⟩) fun c => tif (fun c2 => ?_) fun c2 => ?_
 ·refine tb (spec_l1Byte.sp (by omega) hc) fun r hr => tp (by omega) (tl ?_)
  rw [Int.tmod_eq_emod_of_nonneg hr.1]
  exact ⟨Int.emod_nonneg _ (by omega), fun _ => Int.emod_lt_of_pos _ (by omega), hr.2.2⟩
 ·refine tb (spec_l1Byte.sp (by omega) hc) fun r2 h2 => tb (spec_l1Byte.sp (by omega) h2.2.2) fun r3 h3 => tb (spec_l1Byte.sp (by omega) h3.2.2) fun r4 h4 => tp (by omega) (tl ?_)
  have e : IntKind.wrap IntKind.i64 ((IntKind.wrap IntKind.i64 ((IntKind.wrap IntKind.i64 (r2.1 * (65536 : Int))) + (IntKind.wrap IntKind.i64 (r3.1 * (256 : Int))))) + r4.1) = r2.1 * 65536 + r3.1 * 256 + r4.1 := by
   rw [wrap_id (x := r2.1 * 65536) (by omega) (by omega), wrap_id (x := r3.1 * 256) (by omega) (by omega), wrap_id (x := r2.1 * 65536 + r3.1 * 256) (by omega) (by omega), wrap_id (by omega) (by omega)]
  rw [e, Int.tmod_eq_emod_of_nonneg (by omega)]
  exact ⟨Int.emod_nonneg _ (by omega), fun _ => Int.emod_lt_of_pos _ (by omega), h4.2.2⟩
theorem spec_l1Int.sp {d : Nat} (hd : 3 ≤ d) {b : List Int} {p x : Int} {l : List Int} (hc : cur b p) (h0 : 0 < l.length) : Tells (spec_l1Int.f d (b, p, x, l)) fun r => r.1 ∈ l ∧ cur b r.2.1 := by
 obtain ⟨d, rfl, _⟩ := dep hd
 rw [spec_l1Int.t_eq]
 dsimp only [spec_l1Int.m]
 refine tb (spec_l1Below.sp (by omega) hc) fun r hr => ?_
 have hlt := hr.2.1 (by omega)
 have hi : r.1.toNat < l.length := by omega
 have e : r.1 = ((r.1.toNat : Nat) : Int) := by omega
 rw [e]
 refine ti hi (tl ?_)
 rw [getD_in hi]
 exact ⟨List.getElem_mem hi, hr.2.2⟩
theorem spec_l1Once.sp {d : Nat} (hd : 3 ≤ d) {b : List Int} {p x n : Int} (hc : cur b p) : Tells (spec_l1Once.f d (b, p, x, n)) fun r => cur b r.2.1 := by
 obtain ⟨d, rfl, _⟩ := dep hd
 rw [spec_l1Once.t_eq]
 dsimp only [spec_l1Once.m]
 exact tb (spec_l1Below.sp (by omega) hc) fun r hr => tl hr.2.2
theorem u8_bd (x : Int) : 0 ≤ IntKind.wrap IntKind.u8 x ∧ IntKind.wrap IntKind.u8 x ≤ 255 := by rw [IntKind.wrap_u8]; omega
theorem laws_big.sp {d : Nat} (hd : 1 ≤ d) (b : List Int) : laws_big.f d b = some (decide ((b.length : Int) > 1048576)) := by
 obtain ⟨d, rfl, _⟩ := dep hd
 rw [laws_big.t_eq]
 rfl
def drawnF (l : List (Int × Int × Int)) : Prop := l.length ≤ 4 ∧ faultsM none l = true
structure dkI (x : Dk) : Prop where
 n : 4 ≤ x.1.length ∧ x.1.length ≤ 7
 s : ∀ y ∈ x.1, y.length ≤ 9 ∧ ∀ z ∈ y, 0 ≤ z ∧ z ≤ 255
 k : x.2.1.length ≤ 60
 w : ∀ w ∈ x.2.1, 0 ≤ w.1 ∧ w.1 < x.1.length ∧ w.2.length ≤ 9 ∧ ∀ z ∈ w.2, 0 ≤ z ∧ z ≤ 255
 f : drawnF x.2.2.2.1
theorem drawnF.cut {l : List (Int × Int × Int)} (h : faultsM none l = true) : ∀ f ∈ l, 0 ≤ f.2.2 := by
 have key : ∀ (l : List (Int × Int × Int)) (o : Option (Int × Int × Int)), faultsM o l = true → ∀ f ∈ l, 0 ≤ f.2.2 := by
  intro l
  induction l with
  | nil => intro _ _ f hf; cases hf
  | cons a r ih =>
   intro o ho f hf
   simp only [faultsM, Bool.and_eq_true] at ho
   obtain ⟨ha, hr⟩ := ho
   rcases List.mem_cons.1 hf with rfl | hf
   ·unfold fOk at ha
    simp only [Bool.and_eq_true] at ha
    exact (inB_iff.1 ha.2.2).1
   ·cases o with
    | none => exact ih _ hr f hf
    | some y =>
     simp only [Bool.and_eq_true] at hr
     exact ih _ hr.2 f hf
 exact key l none h
theorem small_of {x : Dk} {a b c k : Nat} (h1 : x.1.length ≤ a) (h2 : ∀ y ∈ x.1, y.length ≤ k) (h3 : x.2.1.length ≤ b) (h4 : ∀ w ∈ x.2.1, w.2.length ≤ k) (h5 : x.2.2.2.1.length ≤ c) (ha : a ≤ 1000) (hb : b ≤ 1000) (hc : c ≤ 1000) (hk : k ≤ 1000) : dkSm x := by
 refine ⟨⟨by omega, fun y hy => by have := h2 y hy; omega⟩, ⟨by omega, fun y hy => by have := h4 y hy; omega⟩, by omega, ?_⟩
 unfold dkW
 have g1 := wSum_le (w := List.length) h2
 have g2 := wSum_le (w := ww) (k := k + 1) (l := x.2.1) fun y hy => by have := h4 y hy; unfold ww; omega
 have g3 := sum_three x.2.2.2.1
 have m1 : x.1.length * k ≤ 1000 * 1000 := Nat.mul_le_mul (by omega) hk
 have m2 : x.2.1.length * (k + 1) ≤ 1000 * 1001 := Nat.mul_le_mul (by omega) (by omega)
 omega
theorem dkI.sm {x : Dk} (h : dkI x) : dkSm x := small_of (a := 7) (b := 60) (c := 4) (k := 9) h.n.2 (fun y hy => (h.s y hy).1) h.k (fun w hw => (h.w w hw).2.2.1) h.f.1 (by omega) (by omega) (by omega) (by omega)
theorem dkI.good {x : Dk} (h : dkI x) (hp : -1000000000 ≤ x.2.2.1 ∧ x.2.2.1 ≤ 1000000000) : dkGood x :=
 ⟨h.sm, fun w hw => ⟨(h.w w hw).1, (h.w w hw).2.1, by have := (h.w w hw).2.2.1; omega⟩, drawnF.cut h.f.2, hp.2, hp.1⟩
structure dkV (x : Dk) : Prop where
 n : x.1.length ≤ 7
 s : ∀ y ∈ x.1, y.length ≤ 300 ∧ ∀ z ∈ y, 0 ≤ z ∧ z ≤ 255
 k : x.2.1.length ≤ 61
 w : ∀ w ∈ x.2.1, w.2.length ≤ 300 ∧ ∀ z ∈ w.2, 0 ≤ z ∧ z ≤ 255
 f : x.2.2.2.1.length ≤ 5
theorem dkV.sm {x : Dk} (h : dkV x) : dkSm x := small_of (a := 7) (b := 61) (c := 5) (k := 300) h.n (fun y hy => (h.s y hy).1) h.k (fun w hw => (h.w w hw).1) h.f (by omega) (by omega) (by omega) (by omega)
theorem spec_PutSum.sp {d : Nat} (hd : 2 ≤ d) {l : List Int} (hl : l.length ≤ 100000000000) (hb : ∀ b ∈ l, 0 ≤ b ∧ b ≤ 255) : spec_PutSum.f d l = some (l ++ sum4 (crcM l)) := by
 obtain ⟨d, rfl, _⟩ := dep hd
 rw [spec_PutSum.t_eq]
 dsimp only [spec_PutSum.m]
 refine Tells.eq (tc (spec_Crc.sp (by omega) (by omega) hb) (tp ?_ (tp (by decide) (tp (by decide) (tp (by decide) (tp ?_ (tl ?_)))))))
 ·simp only [List.length_nil]; omega
 ·simp only [List.length_cons, List.length_nil, List.nil_append]; omega
 ·rw [shr8 _ 24 3 rfl (by omega), shr8 _ 16 2 rfl (by omega), shr8 _ 8 1 rfl (by omega)]
  simp only [IntKind.wrap_u8, sum4, List.nil_append]
  rfl
theorem spec_PutU.sp {d : Nat} (hd : 1 ≤ d) {l : List Int} {n : Int} (hl : l.length ≤ 100000000000) : spec_PutU.f d (l, n) = some (l ++ uM n) := by
 obtain ⟨d, rfl, _⟩ := dep hd
 rw [spec_PutU.t_eq]
 dsimp only [spec_PutU.m]
 have last : ∀ (m : Int) (s : List Int) k, 0 ≤ m → m ≤ 127 → s.length ≤ 100000000010 → Tells (iter (spec_PutU.S0 d) (k + 1) (m, s)) (· = s ++ [m]) := fun m s k h0 h1 h2 => by
  simp only [iter]
  dsimp only [spec_PutU.S0, spec_PutU.s0]
  rw [u8_id h0 (by omega)]
  exact tn (by omega) (tp (by simp; omega) (tl rfl))
 have more : ∀ (m : Int) (s : List Int) k Q, 127 < m → m ≤ 1000000 → s.length ≤ 100000000010 → Tells (iter (spec_PutU.S0 d) k (m / 128, s ++ [m % 128 + 128])) Q → Tells (iter (spec_PutU.S0 d) (k + 1) (m, s)) Q := fun m s k Q h0 h1 h2 ih => by
  simp only [iter]
  dsimp only [spec_PutU.S0, spec_PutU.s0]
  have e7 : Int.fdiv m (2 ^ (min (Int.toNat (7 : Int)) (IntKind.bits IntKind.i64))) = m / 128 := by
   rw [show min (Int.toNat (7 : Int)) (IntKind.bits IntKind.i64) = 7 from rfl, show (2 : Int) ^ 7 = 128 from rfl, Int.fdiv_eq_ediv_of_nonneg _ (by omega)]
  rw [show IntKind.wrap IntKind.i64 ((BitVec.ofInt (IntKind.bits IntKind.i64) m &&& BitVec.ofInt (IntKind.bits IntKind.i64) (127 : Int)).toNat : Int) = m % 128 from and127 m (by omega) (by omega),
   show IntKind.wrap IntKind.i64 ((BitVec.ofInt (IntKind.bits IntKind.i64) (m % 128) ||| BitVec.ofInt (IntKind.bits IntKind.i64) (128 : Int)).toNat : Int) = m % 128 + 128 from or128 _ (by omega) (by omega), u8_id (by omega) (by omega), e7]
  exact tp (by omega) (tp (by simp; omega) (tp (by decide) ih))
 have all : ∀ m : Int, 0 ≤ m → m ≤ 1000000 → Tells (iter (spec_PutU.S0 d) rnds (m, [] ++ l)) (· = l ++ groups m) := fun m h0 h1 => by
  rw [List.nil_append]
  obtain ⟨k, hk⟩ : ∃ k, rnds = k + 1 + 1 + 1 := ⟨rnds - 3, by have := rnds_gt (n := 3) (by omega); omega⟩
  rw [hk]
  unfold groups
  by_cases c : m > 127
  ·rw [if_pos c]
   refine more _ _ _ _ c h1 (by omega) ?_
   by_cases c2 : m / 128 > 127
   ·rw [if_pos c2]
    refine more _ _ _ _ c2 (by omega) (by simp; omega) ?_
    have e : m / 128 / 128 = m / 16384 := by omega
    rw [e]
    exact (last _ _ _ (by omega) (by omega) (by simp; omega)).mono fun r hr => by rw [hr]; simp
   ·rw [if_neg c2]
    exact (last _ _ _ (by omega) (by omega) (by simp; omega)).mono fun r hr => by rw [hr]; simp
  ·rw [if_neg c]
   exact last _ _ _ (by omega) (by omega) (by omega)
 unfold uM clampU
 refine Tells.eq (tp (by simp only [List.length_nil]; omega) (tif (fun c => tn (by decide) ?_) fun c => tif (fun c2 => ?_) fun c2 => ?_))
 ·rw [if_neg (by omega), if_pos c]; exact all _ (by omega) (by omega)
 ·rw [if_pos c2]; exact all _ (by omega) (by omega)
 ·rw [if_neg c2, if_neg c]; exact all _ (by omega) (by omega)
theorem spec_PutText.sp {d : Nat} (hd : 2 ≤ d) {l : List Int} {s : ByteArray} (hl : l.length ≤ 100000000000) (hs : s.size ≤ 1000000000) : spec_PutText.f d (l, s) = some (l ++ txtM s) := by
 obtain ⟨d, rfl, _⟩ := dep hd
 rw [spec_PutText.t_eq]
 dsimp only [spec_PutText.m]
 have := uM_len s.size
 refine Tells.eq (tc (spec_PutU.sp (by omega) hl) (tp ?_ (tl ?_)))
 ·have h2 : (strNums s).length = s.size := by simp [strNums]
  rw [h2, List.length_append]; omega
 ·unfold txtM
  rw [List.append_assoc]
theorem laws_sameBytes.sp {d : Nat} (hd : 1 ≤ d) {a b : List Int} (ha : a.length ≤ 140737488351232) : laws_sameBytes.f d (a, b) = some (decide (a = b)) := by
 obtain ⟨d, rfl, _⟩ := dep hd
 rw [laws_sameBytes.t_eq]
 refine Tells.eq ?_
 dsimp only [laws_sameBytes.m]
 refine tbif (fun h => tl ?_) fun h => ?_
 ·rw [decide_eq_false]; rintro rfl; simp at h
 have hl : a.length = b.length := by have : (a.length : Int) = (b.length : Int) := by simpa using h
                                     omega
 have := loopE (laws_sameBytes.S0 d) a.length (fun i => (a, b, i)) (fun i r => r = decide (a.drop i = b.drop i)) (by omega) (fun L => ?_) fun L i hi ih => ?_
 ·simpa using this
 ·dsimp only [laws_sameBytes.S0, laws_sameBytes.s0]
  refine tn (by omega) (tl ?_)
  rw [List.drop_length, hl, List.drop_length]; rfl
 ·dsimp only [laws_sameBytes.S0, laws_sameBytes.s0]
  have hib : i < b.length := by omega
  rw [drop_at hi, drop_at hib, getD_in hi, getD_in hib, wrap_succ (by omega)]
  refine tp (by omega) (ti hi (ti hib (tbif (fun c => tl ?_) fun c => ih.mono fun r hr => ?_)))
  ·rw [decide_eq_false]
   intro e
   rw [List.cons.injEq] at e
   rw [e.1] at c; simp at c
  ·have c' : a[i] = b[i] := by simpa using c
   rw [hr, c', Bool.eq_iff_iff, decide_eq_true_iff, decide_eq_true_iff, List.cons.injEq]
   exact ⟨fun h => ⟨rfl, h⟩, fun h => h.2⟩
theorem laws_begins.sp {d : Nat} (hd : 2 ≤ d) {a b : List Int} (ha : a.length ≤ 140737488351232) : laws_begins.f d (a, b) = some (decide (b.length ≤ a.length ∧ a.take b.length = b)) := by
 obtain ⟨d, rfl, _⟩ := dep hd
 rw [laws_begins.t_eq]
 dsimp only [laws_begins.m]
 refine Tells.eq (tif (fun h => ?_) fun h => tl ?_)
 ·refine tt (by rw [decide_eq_true (by omega), decide_eq_true (by omega), decide_eq_true (by omega)]; rfl) ?_
  simp only [Int.toNat_zero, List.drop_zero, Int.toNat_natCast]
  refine tc (laws_sameBytes.sp (by omega) (by rw [List.length_take]; omega)) (tl ?_)
  have : b.length ≤ a.length := by omega
  simp [this]
 ·rw [decide_eq_false (fun h2 => by have := h2.1; omega)]
abbrev Col := ByteArray × Int × Bool
abbrev By := Int × Bool
abbrev Ix := ByteArray × Bool × List (Int × Bool)
abbrev Df := ByteArray × List (ByteArray × Int × Bool) × List (Int × Bool) × List (ByteArray × Bool × List (Int × Bool))
abbrev Vl := Int × Int × ByteArray
abbrev Pt := Int × Int × Bool × Bool
theorem loopL {A R β : Type} (s : (A → Option R) → A → Option R) (l : List β) (mk : Int → A) (F : Nat → List β → R) (hl : l.length ≤ 4611686018427387904)
  (base : ∀ L, Tells (s L (mk (l.length : Int))) (· = F l.length []))
  (step : ∀ L i (hi : i < l.length), Tells (L (mk ((i + 1 : Nat) : Int))) (· = F (i + 1) (l.drop (i + 1))) → Tells (s L (mk (i : Int))) (· = F i (l[i] :: l.drop (i + 1)))) :
  Tells (iter s rnds (mk (0 : Int))) (· = F 0 l) := by
 have := loopE s l.length mk (fun i r => r = F i (l.drop i)) hl (fun L => by
  rw [List.drop_length]; exact base L) fun L i hi ih => by
  rw [drop_at hi]; exact step L i hi ih
 simpa using this
theorem loopStop {A R β : Type} (s : (A → Option R) → A → Option R) (l : List β) (mk : Int → A) (p : β → Bool) (v R0 : R) (hl : l.length ≤ 4611686018427387904)
  (base : ∀ L, Tells (s L (mk (l.length : Int))) (· = R0))
  (step : ∀ L i (hi : i < l.length) e, Tells (L (mk ((i + 1 : Nat) : Int))) (· = e) → Tells (s L (mk (i : Int))) (· = bif p l[i] then v else e)) :
  Tells (iter s rnds (mk (0 : Int))) (· = bif l.any p then v else R0) := by
 refine loopL s l mk (fun _ r => bif r.any p then v else R0) hl (fun L => base L) fun L i hi ih => ?_
 refine (step L i hi _ ih).mono fun r hr => ?_
 rw [hr, List.any_cons]
 cases p l[i] <;> rfl
def wordsL : List ByteArray := [(⟨#[116, 97, 98, 108, 101]⟩ : ByteArray), (⟨#[112, 114, 105, 109, 97, 114, 121]⟩ : ByteArray), (⟨#[117, 110, 105, 113, 117, 101]⟩ : ByteArray), (⟨#[105, 110, 100, 101, 120]⟩ : ByteArray), (⟨#[110, 117, 108, 108]⟩ : ByteArray), (⟨#[100, 101, 115, 99]⟩ : ByteArray), (⟨#[105, 110, 116]⟩ : ByteArray), (⟨#[110, 117, 109]⟩ : ByteArray), (⟨#[116, 101, 120, 116]⟩ : ByteArray), (⟨#[98, 111, 111, 108]⟩ : ByteArray)]
theorem toList_inj {a b : ByteArray} (h : a.toList = b.toList) : a = b := by
 rw [ByteArray.toList_eq, ByteArray.toList_eq] at h
 exact ByteArray.ext (Array.toList_inj.1 h)
def isT (a b : ByteArray) : Bool := a.toList == b.toList
theorem isT_iff {a b : ByteArray} : isT a b = true ↔ a = b := by
 unfold isT
 rw [beq_iff_eq]
 exact ⟨toList_inj, fun h => by rw [h]⟩
def freeM (s : ByteArray) : Bool := nameM s.size 0 (bytesOf s) && !(wordsL.any fun w => isT w s)
def namesM (d : Df) : Bool := d.2.1.all (fun c => freeM c.1) && (d.2.2.2.all (fun x => freeM x.1) && freeM d.1)
def typesM (cs : List Col) : Bool := cs.all (fun c => inB c.2.1 1 4) && inB cs.length 1 6
def onceR : List ByteArray → List ByteArray → Bool
 | _, [] => true
 | p, x :: r => !(p.any fun y => isT y x) && onceR (p ++ [x]) r
def onceM (d : Df) : Bool := onceR [] (d.2.1.map (·.1)) && onceR [] (d.2.2.2.map (·.1))
def partsM (n : Int) (ps : List By) : Bool := match ps with
 | [a] => inB a.1 0 (n - 1)
 | [a, b] => inB a.1 0 (n - 1) && (inB b.1 0 (n - 1) && !decide (a.1 = b.1))
 | _ => false
theorem partsM_in {n : Int} {ps : List By} (h : partsM n ps = true) : ∀ p ∈ ps, 0 ≤ p.1 ∧ p.1 < n := by
 unfold partsM at h
 match ps, h with
 | [a], h => intro p hp; rw [List.mem_singleton] at hp; rw [hp]; have := inB_iff.1 h; omega
 | [a, b], h =>
  simp only [Bool.and_eq_true] at h
  have h1 := inB_iff.1 h.1
  have h2 := inB_iff.1 h.2.1
  intro p hp
  simp only [List.mem_cons, List.not_mem_nil, or_false] at hp
  rcases hp with e | e <;> rw [e] <;> omega
theorem partsM_len {n : Int} {ps : List By} (h : partsM n ps = true) : 1 ≤ ps.length ∧ ps.length ≤ 2 := by
 unfold partsM at h
 match ps, h with
 | [a], _ => exact ⟨by simp, by simp⟩
 | [a, b], _ => exact ⟨by simp, by simp⟩
theorem partsM_not {n : Int} {ps : List By} (h : ¬ inB ps.length 1 2 = true) : partsM n ps = false := by
 cases c : partsM n ps with
 | false => rfl
 | true => have := partsM_len c; exact absurd (inB_iff.2 ⟨by omega, by omega⟩) h
def allPartsM (d : Df) : Bool := d.2.2.2.all (fun x => partsM d.2.1.length x.2.2) && partsM d.2.1.length d.2.2.1
def colAt (cs : List Col) (i : Int) : Col := List.getD cs (Int.toNat i) (ByteArray.empty, (0 : Int), false)
def ixAt (xs : List Ix) (i : Int) : Ix := List.getD xs (Int.toNat i) (ByteArray.empty, false, ([] : List (Int × Bool)))
def nullAt (cs : List Col) (p : By) : Bool := (colAt cs p.1).2.2
def checkM (d : Df) : Int :=
 bif namesM d then (bif typesM d.2.1 then (bif onceM d then (bif decide ((d.2.2.2.length : Int) > 2) then 6 else bif allPartsM d then (bif d.2.2.1.any (nullAt d.2.1) then 4 else 0) else 5) else 3) else 2) else 1
def goodM (d : Df) : Prop := namesM d = true ∧ typesM d.2.1 = true ∧ onceM d = true ∧ d.2.2.2.length ≤ 2 ∧ allPartsM d = true ∧ d.2.2.1.any (nullAt d.2.1) = false
theorem checkM_iff {d : Df} : checkM d = 0 ↔ goodM d := by
 unfold checkM goodM
 cases namesM d <;> cases typesM d.2.1 <;> cases onceM d <;> cases allPartsM d <;> cases d.2.2.1.any (nullAt d.2.1) <;> by_cases h : (d.2.2.2.length : Int) > 2 <;> simp [h] <;> omega
theorem at_mem {β : Type} {l : List β} {i : Int} {z : β} (h0 : 0 ≤ i) (h1 : i < l.length) : List.getD l (Int.toNat i) z ∈ l := by
 have e : i = ((i.toNat : Nat) : Int) := by omega
 rw [e, getD_in (show i.toNat < l.length by omega)]
 exact List.getElem_mem _
def firstR (l : List Df) : Nat → List Df → Int
 | _, [] => -1
 | i, d :: r => bif decide (checkM d = 0) && decide (i ≤ 2) then (bif (l.take i).any (fun e => isT e.1 d.1) then (i : Int) else firstR l (i + 1) r) else (i : Int)
def firstM (l : List Df) : Int := firstR l 0 l
def mkPart (cs : List Col) (p : By) : Pt := (p.1, (colAt cs p.1).2.1, (colAt cs p.1).2.2, p.2)
def rowR : Nat → List Col → List Pt
 | _, [] => []
 | i, c :: r => ((i : Int), c.2.1, c.2.2, false) :: rowR (i + 1) r
def planR (d : Df) : List Pt := bif decide (checkM d = 0) then rowR 0 d.2.1 else []
def planP (d : Df) : List Pt := bif decide (checkM d = 0) then d.2.2.1.map (mkPart d.2.1) else []
def planI (d : Df) (i : Int) : List Pt :=
 bif decide (checkM d = 0) then (bif inB i 0 ((d.2.2.2.length : Int) - 1) then (ixAt d.2.2.2 i).2.2.map (mkPart d.2.1) ++ d.2.2.1.map (mkPart d.2.1) else []) else []
theorem rowR_len : ∀ (r : List Col) (i : Nat), (rowR i r).length = r.length
 | [], _ => rfl
 | c :: r, i => by rw [rowR, List.length_cons, rowR_len r (i + 1), List.length_cons]
theorem allParts_of {d : Df} (h : allPartsM d = true) : partsM d.2.1.length d.2.2.1 = true ∧ ∀ x ∈ d.2.2.2, partsM d.2.1.length x.2.2 = true := by
 unfold allPartsM at h
 rw [Bool.and_eq_true] at h
 exact ⟨h.2, fun x hx => List.all_eq_true.1 h.1 x hx⟩
theorem goodM.parts {d : Df} (h : goodM d) : partsM d.2.1.length d.2.2.1 = true ∧ ∀ x ∈ d.2.2.2, partsM d.2.1.length x.2.2 = true := allParts_of h.2.2.2.2.1
theorem goodM.types {d : Df} (h : goodM d) : (∀ c ∈ d.2.1, inB c.2.1 1 4 = true) ∧ 1 ≤ d.2.1.length ∧ d.2.1.length ≤ 6 := by
 have := h.2.1
 unfold typesM at this
 rw [Bool.and_eq_true] at this
 have q := inB_iff.1 this.2
 exact ⟨fun c hc => List.all_eq_true.1 this.1 c hc, by omega, by omega⟩
def tyL : List ByteArray := [(⟨#[]⟩ : ByteArray), (⟨#[105, 110, 116]⟩ : ByteArray), (⟨#[110, 117, 109]⟩ : ByteArray), (⟨#[116, 101, 120, 116]⟩ : ByteArray), (⟨#[98, 111, 111, 108]⟩ : ByteArray)]
def tyAt (t : Int) : ByteArray := List.getD tyL (Int.toNat t) ByteArray.empty
def partOne (cs : List Col) (p : By) : ByteArray := bif p.2 then (colAt cs p.1).1 ++ (⟨#[32, 100, 101, 115, 99]⟩ : ByteArray) else (colAt cs p.1).1
def partTx (cs : List Col) (ps : List By) : ByteArray := match ps with
 | [p] => partOne cs p ++ (⟨#[59, 32]⟩ : ByteArray)
 | [p, q] => ((partOne cs p ++ (⟨#[44, 32]⟩ : ByteArray)) ++ partOne cs q) ++ (⟨#[59, 32]⟩ : ByteArray)
 | _ => (⟨#[]⟩ : ByteArray)
def namesS (cs : List Col) : Prop := ∀ c ∈ cs, c.1.size ≤ 8
def colS (s : ByteArray) (c : Col) : ByteArray := (bif c.2.2 then (s ++ ((c.1 ++ (⟨#[32]⟩ : ByteArray)) ++ tyAt c.2.1)) ++ (⟨#[32, 110, 117, 108, 108]⟩ : ByteArray) else s ++ ((c.1 ++ (⟨#[32]⟩ : ByteArray)) ++ tyAt c.2.1)) ++ (⟨#[59, 32]⟩ : ByteArray)
def idxS (cs : List Col) (s : ByteArray) (x : Ix) : ByteArray := s ++ ((((bif x.2.1 then (⟨#[117, 110, 105, 113, 117, 101, 32]⟩ : ByteArray) else (⟨#[105, 110, 100, 101, 120, 32]⟩ : ByteArray)) ++ x.1) ++ (⟨#[32]⟩ : ByteArray)) ++ partTx cs x.2.2)
def headTx (d : Df) : ByteArray := ((⟨#[116, 97, 98, 108, 101, 32]⟩ : ByteArray) ++ d.1) ++ (⟨#[32, 123, 32]⟩ : ByteArray)
def restTx (d : Df) (s : ByteArray) : ByteArray :=
 d.2.2.2.foldl (idxS d.2.1) (s ++ ((⟨#[112, 114, 105, 109, 97, 114, 121, 32]⟩ : ByteArray) ++ partTx d.2.1 d.2.2.1)) ++ (⟨#[125]⟩ : ByteArray)
def defTx (d : Df) : ByteArray := bif decide (checkM d = 0) then restTx d (d.2.1.foldl colS (headTx d)) else (⟨#[]⟩ : ByteArray)
theorem nameM_end (n : Int) : ∀ (l : List Int) (i : Nat), nameM n i l = true → inB n 1 8 = true
 | [], _, h => h
 | x :: r, i, h => by
  rw [nameM] at h
  split at h
  ·exact nameM_end n r (i + 1) h
  ·split at h
   ·cases h
   ·split at h
    ·exact nameM_end n r (i + 1) h
    ·cases h
theorem freeM_size {s : ByteArray} (h : freeM s = true) : 1 ≤ s.size ∧ s.size ≤ 8 := by
 unfold freeM at h
 rw [Bool.and_eq_true] at h
 have := inB_iff.1 (nameM_end _ _ _ h.1)
 omega
theorem goodM.names {d : Df} (h : goodM d) : freeM d.1 = true ∧ (∀ c ∈ d.2.1, freeM c.1 = true) ∧ ∀ x ∈ d.2.2.2, freeM x.1 = true := by
 have := h.1
 unfold namesM at this
 rw [Bool.and_eq_true, Bool.and_eq_true] at this
 exact ⟨this.2.2, fun c hc => List.all_eq_true.1 this.1 c hc, fun x hx => List.all_eq_true.1 this.2.1 x hx⟩
def defsS (s : ByteArray) (d : Df) : ByteArray := s ++ (defTx d ++ (⟨#[10]⟩ : ByteArray))
def defsTx (l : List Df) : ByteArray := l.foldl defsS (⟨#[]⟩ : ByteArray)
def Ahead (a b : List Int) : Prop := ∃ c x y r s, a = c ++ x :: r ∧ b = c ++ y :: s ∧ x < y
theorem Ahead.pre {a b : List Int} (k : List Int) (h : Ahead a b) : Ahead (k ++ a) (k ++ b) := by
 obtain ⟨c, x, y, r, s, rfl, rfl, h⟩ := h
 exact ⟨k ++ c, x, y, r, s, by simp, by simp, h⟩
theorem Ahead.post {a b : List Int} (h : Ahead a b) (p q : List Int) : Ahead (a ++ p) (b ++ q) := by
 obtain ⟨c, x, y, r, s, rfl, rfl, h⟩ := h
 exact ⟨c, x, y, r ++ p, s ++ q, by simp, by simp, h⟩
theorem Ahead.flip {a b : List Int} (h : Ahead a b) : Ahead (b.map fun x => 255 - x) (a.map fun x => 255 - x) := by
 obtain ⟨c, x, y, r, s, rfl, rfl, h⟩ := h
 exact ⟨c.map fun x => 255 - x, 255 - y, 255 - x, s.map fun x => 255 - x, r.map fun x => 255 - x, by simp, by simp, by omega⟩
theorem Ahead.hd {x y : Int} {r s : List Int} (h : x < y) : Ahead (x :: r) (y :: s) := ⟨[], x, y, r, s, rfl, rfl, h⟩
def ltL : List Int → List Int → Bool
 | [], [] => false
 | [], _ :: _ => true
 | _ :: _, [] => false
 | a :: r, b :: s => if a = b then ltL r s else decide (a < b)
theorem ltL_pre : ∀ (c a b : List Int), ltL (c ++ a) (c ++ b) = ltL a b
 | [], _, _ => rfl
 | x :: c, a, b => by
  rw [List.cons_append, List.cons_append, ltL, if_pos rfl]
  exact ltL_pre c a b
theorem ltL_self (a : List Int) : ltL a a = false := by
 have := ltL_pre a [] []
 rw [List.append_nil] at this
 exact this
theorem Ahead.lt {a b : List Int} (h : Ahead a b) : ltL a b = true := by
 obtain ⟨c, x, y, r, s, rfl, rfl, h⟩ := h
 rw [ltL_pre, ltL, if_neg (by omega)]
 exact decide_eq_true h
theorem Ahead.gt {a b : List Int} (h : Ahead a b) : ltL b a = false := by
 obtain ⟨c, x, y, r, s, rfl, rfl, h⟩ := h
 rw [ltL_pre, ltL, if_neg (by omega)]
 exact decide_eq_false (by omega)
theorem Ahead.ne {a b : List Int} (h : Ahead a b) : a ≠ b := fun e => by
 have h1 := h.lt
 rw [e, ltL_self] at h1
 cases h1
theorem ltL_tot : ∀ (a b : List Int), a ≠ b → ltL a b = false → ltL b a = true
 | [], [], h, _ => absurd rfl h
 | [], _ :: _, _, h => by cases h
 | _ :: _, [], _, _ => rfl
 | x :: a, y :: b, h, h2 => by
  rw [ltL] at h2 ⊢
  by_cases e : x = y
  ·rw [if_pos e] at h2
   rw [if_pos e.symm]
   exact ltL_tot a b (fun q => h (by rw [e, q])) h2
  ·rw [if_neg e] at h2
   rw [if_neg fun q => e q.symm]
   have := of_decide_eq_false h2
   exact decide_eq_true (by omega)
theorem digM_ahead : ∀ (n : Nat) (x y : Int), 0 ≤ x → x < y → y < 256 ^ n → Ahead (digM x n) (digM y n)
 | 0, x, y, h0, h1, h2 => by rw [Int.pow_zero] at h2; omega
 | n + 1, x, y, h0, h1, h2 => by
  rw [digM_succ, digM_succ]
  by_cases c : x / 256 < y / 256
  ·refine (digM_ahead n _ _ (by omega) c ?_).post _ _
   rw [Int.pow_succ] at h2
   generalize (256 : Int) ^ n = z at h2 ⊢
   omega
  ·have e : x / 256 = y / 256 := by omega
   rw [e]
   exact ⟨digM (y / 256) n, x % 256, y % 256, [], [], rfl, rfl, by omega⟩
def clampF (n : Int) : Int := if n > 2147483647 then 2147483647 else if n < -2147483648 then -2147483648 else n
def fixM (n : Int) : List Int := digM (clampF n + 2147483648) 4
theorem fixM_ahead {n m : Int} (h0 : -2147483648 ≤ n) (h : n < m) (h1 : m ≤ 2147483647) : Ahead (fixM n) (fixM m) := by
 unfold fixM clampF
 rw [if_neg (by omega), if_neg (by omega), if_neg (by omega), if_neg (by omega)]
 exact digM_ahead 4 _ _ (by omega) (by omega) (by have : (256 : Int) ^ 4 = 4294967296 := by decide
                                                  omega)
theorem beM_lt : ∀ (d : Nat) (x : Int), 0 ≤ x → x < 256 ^ d → x < 256 ^ (beM d x).length
 | 0, x, h0, h1 => h1
 | d + 1, x, h0, h1 => by
  rw [beM]
  by_cases c : x > 0
  ·rw [if_pos c, List.length_append, List.length_singleton, Int.pow_succ]
   have := beM_lt d (x / 256) (by omega) (by
    rw [Int.pow_succ] at h1
    generalize (256 : Int) ^ d = z at h1 ⊢
    omega)
   generalize (256 : Int) ^ (beM d (x / 256)).length = z at this ⊢
   omega
  ·rw [if_neg c]
   have : (256 : Int) ^ ([] : List Int).length = 1 := rfl
   omega
theorem beM_mono : ∀ (d : Nat) (x y : Int), x ≤ y → (beM d x).length ≤ (beM d y).length
 | 0, _, _, _ => Nat.le_refl _
 | d + 1, x, y, h => by
  rw [beM, beM]
  by_cases c : x > 0
  ·rw [if_pos c, if_pos (by omega), List.length_append, List.length_append, List.length_singleton, List.length_singleton]
   have := beM_mono d (x / 256) (y / 256) (by omega)
   omega
  ·rw [if_neg c]; exact Nat.zero_le _
theorem beM_ahead {x y : Int} (h0 : 0 ≤ x) (h : x < y) (h1 : y < 256 ^ 7) (e : (beM 7 x).length = (beM 7 y).length) : Ahead (beM 7 x) (beM 7 y) := by
 have hy := beM_lt 7 y (by omega) h1
 rw [beM_dig 7 x, beM_dig 7 y, e]
 exact digM_ahead _ _ _ h0 h hy
theorem varM_ahead {n m : Int} (h0 : -1000000000000000 ≤ n) (h : n < m) (h1 : m ≤ 1000000000000000) : Ahead (varM n) (varM m) := by
 have p7 : (256 : Int) ^ 7 = 72057594037927936 := by decide
 have cn : clampV n = n := by unfold clampV; rw [if_neg (by omega), if_neg (by omega)]
 have cm : clampV m = m := by unfold clampV; rw [if_neg (by omega), if_neg (by omega)]
 unfold varM
 rw [cn, cm]
 have b1 := beM_len 7 n
 have b2 := beM_len 7 m
 have b3 := beM_len 7 (-1 - n)
 have b4 := beM_len 7 (-1 - m)
 by_cases c1 : n ≥ 0
 ·rw [if_pos c1, if_pos (by omega)]
  have q := beM_mono 7 n m (by omega)
  by_cases e : (beM 7 n).length = (beM 7 m).length
  ·rw [e]
   exact (beM_ahead c1 h (by omega) e).pre [_]
  ·exact Ahead.hd (by omega)
 ·rw [if_neg c1]
  by_cases c2 : m ≥ 0
  ·rw [if_pos c2]
   exact Ahead.hd (by omega)
  ·rw [if_neg c2]
   have q := beM_mono 7 (-1 - m) (-1 - n) (by omega)
   by_cases e : (beM 7 (-1 - m)).length = (beM 7 (-1 - n)).length
   ·rw [e]
    exact ((beM_ahead (x := -1 - m) (y := -1 - n) (by omega) (by omega) (by omega) e).flip).pre [_]
   ·exact Ahead.hd (by omega)
def escM : List Int → List Int
 | [] => [0, 1]
 | c :: r => if c = 0 then 0 :: 255 :: escM r else c :: escM r
theorem escM_ahead : ∀ (s t : List Int), (∀ x ∈ s, 0 ≤ x) → (∀ x ∈ t, 0 ≤ x) → ltL s t = true → Ahead (escM s) (escM t)
 | [], [], _, _, h => by cases h
 | [], y :: t, _, ht, _ => by
  have := ht y List.mem_cons_self
  rw [escM, escM]
  by_cases c : y = 0
  ·rw [if_pos c]
   exact ⟨[0], 1, 255, [], escM t, rfl, rfl, by decide⟩
  ·rw [if_neg c]
   exact Ahead.hd (by omega)
 | _ :: _, [], _, _, h => by cases h
 | x :: s, y :: t, hs, ht, h => by
  have hx := hs x List.mem_cons_self
  have hy := ht y List.mem_cons_self
  rw [ltL] at h
  rw [escM, escM]
  by_cases e : x = y
  ·rw [if_pos e] at h
   have ih := escM_ahead s t (fun a ha => hs a (List.mem_cons_of_mem _ ha)) (fun a ha => ht a (List.mem_cons_of_mem _ ha)) h
   rw [e]
   by_cases c : y = 0
   ·rw [if_pos c, if_pos c]; exact ih.pre [0, 255]
   ·rw [if_neg c, if_neg c]; exact ih.pre [y]
  ·rw [if_neg e] at h
   have := of_decide_eq_true h
   rw [if_neg (show ¬ y = 0 by omega)]
   by_cases c : x = 0
   ·rw [if_pos c]; exact Ahead.hd (by omega)
   ·rw [if_neg c]; exact Ahead.hd this
def valB (v : Vl) : List Int := if v.1 = 1 then fixM v.2.1 else if v.1 = 2 then varM v.2.1 else if v.1 = 3 then escM (bytesOf v.2.2) else if v.1 = 4 then [v.2.1 % 256] else []
def partB (p : Pt) (v : Vl) : List Int := flipIf p.2.2.2 ((bif p.2.2.1 then [if v.1 = 0 then 0 else 1] else []) ++ valB v)
def fitP (p : Pt) (v : Vl) : Bool := fitsM p.2.1 p.2.2.1 v.1 v.2.1 (bytesOf v.2.2)
def lessV (a b : Vl) : Bool := if a.1 = b.1 then (if a.2.1 = b.2.1 then ltL (bytesOf a.2.2) (bytesOf b.2.2) else decide (a.2.1 < b.2.1)) else decide (a.1 < b.1)
def lessP (p : Pt) (a b : Vl) : Bool := bif p.2.2.2 then lessV b a else lessV a b
theorem vl_ext {a b : Vl} (h1 : a.1 = b.1) (h2 : a.2.1 = b.2.1) (h3 : bytesOf a.2.2 = bytesOf b.2.2) : a = b := by
 obtain ⟨x, y, z⟩ := a
 obtain ⟨x', y', z'⟩ := b
 simp only at h1 h2 h3
 rw [h1, h2, toList_inj (bytesOf_inj.1 h3)]
theorem lessV_tot {a b : Vl} (h : a ≠ b) (h2 : lessV a b = false) : lessV b a = true := by
 unfold lessV at h2 ⊢
 by_cases e1 : a.1 = b.1
 ·rw [if_pos e1] at h2
  rw [if_pos e1.symm]
  by_cases e2 : a.2.1 = b.2.1
  ·rw [if_pos e2] at h2
   rw [if_pos e2.symm]
   exact ltL_tot _ _ (fun e => h (vl_ext e1 e2 e)) h2
  ·rw [if_neg e2] at h2
   rw [if_neg fun q => e2 q.symm]
   have := of_decide_eq_false h2
   exact decide_eq_true (by omega)
 ·rw [if_neg e1] at h2
  rw [if_neg fun q => e1 q.symm]
  have := of_decide_eq_false h2
  exact decide_eq_true (by omega)
def rawB (p : Pt) (v : Vl) : List Int := (bif p.2.2.1 then [if v.1 = 0 then 0 else 1] else []) ++ valB v
theorem fitP_of {p : Pt} {v : Vl} (h : fitP p v = true) : valOkM v.1 v.2.1 (bytesOf v.2.2) = true ∧ ((v.1 = p.2.1 ∧ (v.1 = 0 → p.2.2.1 = true)) ∨ (v.1 = 0 ∧ p.2.2.1 = true)) := by
 unfold fitP fitsM at h
 split at h
 ·rename_i h1
  refine ⟨h1, ?_⟩
  split at h
  ·rename_i h2
   exact Or.inl ⟨h2, fun c => by rw [if_pos c] at h; exact h⟩
  ·split at h
   ·rename_i h3; exact Or.inr ⟨h3, h⟩
   ·cases h
 ·cases h
theorem bytesOf_nn (s : ByteArray) : ∀ x ∈ bytesOf s, 0 ≤ x := fun x hx => (bytesOf_bytes s x hx).1
theorem rawB_ahead {p : Pt} {a b : Vl} (ha : fitP p a = true) (hb : fitP p b = true) (h : lessV a b = true) : Ahead (rawB p a) (rawB p b) := by
 obtain ⟨va, fa⟩ := fitP_of ha
 obtain ⟨vb, fb⟩ := fitP_of hb
 unfold lessV at h
 by_cases e1 : a.1 = b.1
 ·rw [if_pos e1] at h
  unfold rawB
  rw [e1]
  refine Ahead.pre _ ?_
  unfold valB valOkM at *
  rw [e1] at va ⊢
  by_cases k0 : b.1 = 0
  ·exfalso
   rw [if_pos k0] at va vb
   split at va
   rotate_left
   ·cases va
   split at vb
   rotate_left
   ·cases vb
   rename_i n1 n2
   rw [if_pos (by omega), of_decide_eq_true va, of_decide_eq_true vb] at h
   cases h
  rw [if_neg k0] at va vb
  by_cases k1 : b.1 = 1
  ·rw [if_pos k1] at va vb ⊢
   rw [if_pos k1]
   split at va
   rotate_left
   ·cases va
   split at vb
   rotate_left
   ·cases vb
   rename_i n1 n2
   have n1 := inB_iff.1 n1
   have n2 := inB_iff.1 n2
   by_cases e2 : a.2.1 = b.2.1
   ·rw [if_pos e2, of_decide_eq_true va, of_decide_eq_true vb] at h; cases h
   ·rw [if_neg e2] at h
    exact fixM_ahead n1.1 (of_decide_eq_true h) n2.2
  rw [if_neg k1] at va vb ⊢
  rw [if_neg k1]
  by_cases k2 : b.1 = 2
  ·rw [if_pos k2] at va vb ⊢
   rw [if_pos k2]
   split at va
   rotate_left
   ·cases va
   split at vb
   rotate_left
   ·cases vb
   rename_i n1 n2
   have n1 := inB_iff.1 n1
   have n2 := inB_iff.1 n2
   by_cases e2 : a.2.1 = b.2.1
   ·rw [if_pos e2, of_decide_eq_true va, of_decide_eq_true vb] at h; cases h
   ·rw [if_neg e2] at h
    exact varM_ahead n1.1 (of_decide_eq_true h) n2.2
  rw [if_neg k2] at va vb ⊢
  rw [if_neg k2]
  by_cases k3 : b.1 = 3
  ·rw [if_pos k3] at va vb ⊢
   rw [if_pos k3]
   split at va
   rotate_left
   ·cases va
   split at vb
   rotate_left
   ·cases vb
   rename_i n1 n2
   rw [if_pos (by omega)] at h
   exact escM_ahead _ _ (bytesOf_nn _) (bytesOf_nn _) h
  rw [if_neg k3] at va vb ⊢
  rw [if_neg k3]
  by_cases k4 : b.1 = 4
  ·rw [if_pos k4] at va vb ⊢
   rw [if_pos k4]
   split at va
   rotate_left
   ·cases va
   split at vb
   rotate_left
   ·cases vb
   rename_i n1 n2
   have n1 := inB_iff.1 n1
   have n2 := inB_iff.1 n2
   by_cases e2 : a.2.1 = b.2.1
   ·rw [if_pos e2, of_decide_eq_true va, of_decide_eq_true vb] at h; cases h
   ·rw [if_neg e2] at h
    have := of_decide_eq_true h
    exact Ahead.hd (by omega)
  ·rw [if_neg k4] at va; cases va
 ·rw [if_neg e1] at h
  have hlt := of_decide_eq_true h
  have nn : ∀ v : Vl, valOkM v.1 v.2.1 (bytesOf v.2.2) = true → 0 ≤ v.1 := fun v hv => by
   unfold valOkM at hv
   by_cases k0 : v.1 = 0
   ·omega
   by_cases k1 : v.1 = 1
   ·omega
   by_cases k2 : v.1 = 2
   ·omega
   by_cases k3 : v.1 = 3
   ·omega
   by_cases k4 : v.1 = 4
   ·omega
   rw [if_neg k0, if_neg k1, if_neg k2, if_neg k3, if_neg k4] at hv
   cases hv
  have a0 := nn a va
  have b0 := nn b vb
  have hn : p.2.2.1 = true ∧ a.1 = 0 ∧ b.1 ≠ 0 := by
   rcases fa with ⟨x, y⟩ | ⟨x, y⟩
   ·rcases fb with ⟨z, w⟩ | ⟨z, w⟩
    ·omega
    ·omega
   ·exact ⟨y, x, by omega⟩
  unfold rawB
  rw [hn.1, if_pos hn.2.1, if_neg hn.2.2]
  exact Ahead.hd (by decide)
theorem partB_ahead {p : Pt} {a b : Vl} (ha : fitP p a = true) (hb : fitP p b = true) (h : lessP p a b = true) : Ahead (partB p a) (partB p b) := by
 have e : ∀ v, partB p v = flipIf p.2.2.2 (rawB p v) := fun _ => rfl
 rw [e, e]
 unfold lessP at h
 unfold flipIf
 cases hd : p.2.2.2 with
 | true =>
  rw [hd] at h
  rw [if_pos rfl, if_pos rfl]
  exact (rawB_ahead hb ha h).flip
 | false =>
  rw [hd] at h
  rw [if_neg (by simp), if_neg (by simp)]
  exact rawB_ahead ha hb h
theorem lessP_tot {p : Pt} {a b : Vl} (h : a ≠ b) (h2 : lessP p a b = false) : lessP p b a = true := by
 unfold lessP at h2 ⊢
 cases hd : p.2.2.2 with
 | true => rw [hd] at h2; exact lessV_tot (fun e => h e.symm) h2
 | false => rw [hd] at h2; exact lessV_tot h h2
def keyB : List Pt → List Vl → List Int
 | p :: l, v :: r => partB p v ++ keyB l r
 | _, _ => []
def lessK : List Pt → List Vl → List Vl → Bool
 | p :: l, u :: us, v :: vs => if u = v then lessK l us vs else lessP p u v
 | _, _, _ => false
theorem keyB_cmp : ∀ (l : List Pt) (us vs : List Vl), us.length = l.length → vs.length = l.length → (∀ x ∈ l.zip us, fitP x.1 x.2 = true) → (∀ x ∈ l.zip vs, fitP x.1 x.2 = true) →
  (us = vs ∧ lessK l us vs = false) ∨ (us ≠ vs ∧ lessK l us vs = true ∧ Ahead (keyB l us) (keyB l vs)) ∨ (us ≠ vs ∧ lessK l us vs = false ∧ Ahead (keyB l vs) (keyB l us))
 | [], [], [], _, _, _, _ => Or.inl ⟨rfl, rfl⟩
 | [], [], _ :: _, _, h, _, _ => by cases h
 | [], _ :: _, _, h, _, _, _ => by cases h
 | _ :: _, [], _, h, _, _, _ => by cases h
 | _ :: _, _ :: _, [], _, h, _, _ => by cases h
 | p :: l, u :: us, v :: vs, h1, h2, f1, f2 => by
  simp only [List.zip_cons_cons, List.mem_cons, forall_eq_or_imp] at f1 f2
  have ih := keyB_cmp l us vs (by simpa using h1) (by simpa using h2) f1.2 f2.2
  rw [lessK, keyB, keyB]
  by_cases e : u = v
  ·rw [if_pos e, e]
   rcases ih with ⟨h, h'⟩ | ⟨h, h', h''⟩ | ⟨h, h', h''⟩
   ·exact Or.inl ⟨by rw [h], h'⟩
   ·exact Or.inr (Or.inl ⟨fun q => h (List.cons.inj q).2, h', h''.pre _⟩)
   ·exact Or.inr (Or.inr ⟨fun q => h (List.cons.inj q).2, h', h''.pre _⟩)
  ·rw [if_neg e]
   have ne : u :: us ≠ v :: vs := fun q => e (List.cons.inj q).1
   cases c : lessP p u v with
   | true => exact Or.inr (Or.inl ⟨ne, rfl, (partB_ahead f1.1 f2.1 c).post _ _⟩)
   | false => exact Or.inr (Or.inr ⟨ne, rfl, (partB_ahead f2.1 f1.1 (lessP_tot e c)).post _ _⟩)
def dfFit (k : Nat) (x : Df) : Prop := x.1.size ≤ k ∧ (x.2.1.length ≤ k ∧ ∀ y ∈ x.2.1, y.1.size ≤ k) ∧ x.2.2.1.length ≤ k ∧ (x.2.2.2.length ≤ k ∧ ∀ y ∈ x.2.2.2, y.1.size ≤ k ∧ y.2.2.length ≤ k)
theorem dfFit.mono {k m : Nat} {x : Df} (h : dfFit k x) (hm : k ≤ m) : dfFit m x :=
 ⟨by have := h.1; omega, ⟨by have := h.2.1.1; omega, fun y hy => by have := h.2.1.2 y hy; omega⟩, by have := h.2.2.1; omega, by have := h.2.2.2.1; omega, fun y hy => by have := h.2.2.2.2 y hy; omega⟩
theorem get_byte {s : ByteArray} {i : Nat} (h : i < (bytesOf s).length) : ((ByteArray.get! s (Int.toNat (i : Int))).toNat : Int) = (bytesOf s)[i] := by
 have h2 : i < s.data.size := by simpa [strNums] using h
 rw [Int.toNat_natCast]
 simp [strNums, ByteArray.get!, getElem!_pos s.data i h2]
theorem byte_in {s : ByteArray} {i : Nat} (h : i < (bytesOf s).length) : 0 ≤ (bytesOf s)[i] ∧ (bytesOf s)[i] ≤ 255 := bytesOf_bytes s _ (List.getElem_mem h)
theorem impl_isLetter.sp {d : Nat} (hd : 1 ≤ d) (a : Int) : impl_isLetter.f d a = some (inB a 97 122) := by
 obtain ⟨d, rfl, _⟩ := dep hd
 rw [impl_isLetter.t_eq]
 exact in_def a 97 122
theorem impl_isDigit.sp {d : Nat} (hd : 1 ≤ d) (a : Int) : impl_isDigit.f d a = some (inB a 48 57) := by
 obtain ⟨d, rfl, _⟩ := dep hd
 rw [impl_isDigit.t_eq]
 exact in_def a 48 57
theorem spec_l8Small.sp {d : Nat} (hd : 2 ≤ d) {a : Int} (h : 0 ≤ a ∧ a ≤ 255) : spec_l8Small.f d a = some (inB a 97 122) := by
 obtain ⟨d, rfl, _⟩ := dep hd
 rw [spec_l8Small.t_eq]
 dsimp only [spec_l8Small.m]
 rw [wrap_id (by omega) (by omega), spec_l1In.sp (by omega)]; rfl
theorem spec_l2Digit.sp {d : Nat} (hd : 2 ≤ d) {a : Int} (h : 0 ≤ a ∧ a ≤ 255) : spec_l2Digit.f d a = some (inB a 48 57) := by
 obtain ⟨d, rfl, _⟩ := dep hd
 rw [spec_l2Digit.t_eq]
 dsimp only [spec_l2Digit.m]
 rw [wrap_id (by omega) (by omega), spec_l1In.sp (by omega)]; rfl
theorem impl_nameOk.sp {d : Nat} (hd : 2 ≤ d) {s : ByteArray} (hs : s.size ≤ 140737488351232) : impl_nameOk.f d s = some (nameM s.size 0 (bytesOf s)) := by
 obtain ⟨d, rfl, _⟩ := dep hd
 rw [impl_nameOk.t_eq]
 dsimp only [impl_nameOk.m]
 have hl := bytesOf_length s
 refine Tells.eq (loopL (impl_nameOk.S0 d) (bytesOf s) (fun i => (s, i)) (fun i r => nameM s.size i r) (by omega) (fun L => ?_) fun L i hi ih => ?_)
 ·dsimp only [impl_nameOk.S0, impl_nameOk.s0]
  exact tn (by omega) (tc (impl_in.sp (by omega) _ _ _) (tl rfl))
 ·dsimp only [impl_nameOk.S0, impl_nameOk.s0]
  refine tp (by omega) (ti (by omega) ?_)
  rw [get_byte hi, wrap_succ (by omega)]
  refine tc (impl_isLetter.sp (by omega) _) ?_
  rw [nameM]
  by_cases c1 : inB (bytesOf s)[i] 97 122 = true
  ·rw [if_pos c1]; exact tf (by rw [c1]; rfl) ih
  ·rw [if_neg c1]
   refine tt (by simp [c1]) ?_
   by_cases c2 : i = 0
   ·rw [if_pos c2]; exact tt (by simp [c2]) (tl rfl)
   ·rw [if_neg c2]
    refine tf (by simp; omega) (ti (by omega) (tc (impl_isDigit.sp (by omega) _) ?_))
    by_cases c3 : inB (bytesOf s)[i] 48 57 = true
    ·rw [if_pos c3]; exact tf (by rw [c3]; rfl) ih
    ·rw [if_neg c3]; exact tt (by simp [c3]) (tl rfl)
theorem spec_l8Name.sp {d : Nat} (hd : 3 ≤ d) {s : ByteArray} (hs : s.size ≤ 140737488351232) : spec_l8Name.f d s = some (nameM s.size 0 (bytesOf s)) := by
 obtain ⟨d, rfl, _⟩ := dep hd
 rw [spec_l8Name.t_eq]
 dsimp only [spec_l8Name.m]
 have hl := bytesOf_length s
 refine Tells.eq (loopL (spec_l8Name.S0 d) (bytesOf s) (fun i => (s, i)) (fun i r => nameM s.size i r) (by omega) (fun L => ?_) fun L i hi ih => ?_)
 ·dsimp only [spec_l8Name.S0, spec_l8Name.s0]
  exact tn (by omega) (tc (spec_l1In.sp (by omega) _ _ _) (tl rfl))
 ·dsimp only [spec_l8Name.S0, spec_l8Name.s0]
  refine tp (by omega) (ti (by omega) ?_)
  have hb := byte_in hi
  rw [get_byte hi, wrap_succ (by omega)]
  refine tc (spec_l8Small.sp (by omega) hb) ?_
  rw [nameM]
  by_cases c1 : inB (bytesOf s)[i] 97 122 = true
  ·rw [if_pos c1]; exact tf (by rw [c1]; rfl) ih
  ·rw [if_neg c1]
   refine tt (by simp [c1]) ?_
   by_cases c2 : i = 0
   ·rw [if_pos c2]; exact tt (by simp [c2]) (tl rfl)
   ·rw [if_neg c2]
    refine tf (by simp; omega) (ti (by omega) (tc (spec_l2Digit.sp (by omega) hb) ?_))
    by_cases c3 : inB (bytesOf s)[i] 48 57 = true
    ·rw [if_pos c3]; exact tf (by rw [c3]; rfl) ih
    ·rw [if_neg c3]; exact tt (by simp [c3]) (tl rfl)
theorem spec_l9Has.sp {d : Nat} (hd : 1 ≤ d) {l : List ByteArray} (hl : l.length ≤ 140737488351232) (s : ByteArray) : spec_l9Has.f d (l, s) = some (l.any fun w => isT w s) := by
 obtain ⟨d, rfl, _⟩ := dep hd
 rw [spec_l9Has.t_eq]
 dsimp only [spec_l9Has.m]
 have := loopStop (spec_l9Has.S0 d) l (fun i => (l, s, i)) (fun w => isT w s) true false (by omega) (fun L => ?_) fun L i hi e ih => ?_
 ·refine Tells.eq (this.mono fun r hr => ?_)
  rw [hr]; cases (l.any fun w => isT w s) <;> rfl
 ·dsimp only [spec_l9Has.S0, spec_l9Has.s0]
  exact tn (by omega) (tl rfl)
 ·dsimp only [spec_l9Has.S0, spec_l9Has.s0]
  refine tp (by omega) (ti hi ?_)
  rw [getD_in hi, wrap_succ (by omega)]
  exact tbif (fun c => tl (by rw [show isT l[i] s = true from c]; rfl)) fun c => by rw [show isT l[i] s = false from c]; exact ih
theorem spec_l9Word.sp {d : Nat} (hd : 4 ≤ d) {s : ByteArray} (hs : s.size ≤ 140737488351232) : spec_l9Word.f d s = some (freeM s) := by
 obtain ⟨d, rfl, _⟩ := dep hd
 rw [spec_l9Word.t_eq]
 dsimp only [spec_l9Word.m]
 refine Tells.eq (tc (spec_l8Name.sp (by omega) hs) (tbif (fun c => tc (spec_l9Has.sp (l := wordsL) (by omega) (by decide) s) (tl ?_)) fun c => tl ?_))
 ·unfold freeM; rw [c]; rfl
 ·unfold freeM; rw [c]; rfl
theorem loopAnd {A β : Type} (s : (A → Option Bool) → A → Option Bool) (l : List β) (mk : Int → A) (p : β → Bool) (R0 : Bool) (hl : l.length ≤ 4611686018427387904)
  (base : ∀ L, Tells (s L (mk (l.length : Int))) (· = R0))
  (step : ∀ L i (hi : i < l.length) e, Tells (L (mk ((i + 1 : Nat) : Int))) (· = e) → Tells (s L (mk (i : Int))) (· = (p l[i] && e))) :
  Tells (iter s rnds (mk (0 : Int))) (· = (l.all p && R0)) := by
 refine loopL s l mk (fun _ r => r.all p && R0) hl base fun L i hi ih => ?_
 refine (step L i hi _ ih).mono fun r hr => ?_
 rw [hr, List.all_cons, Bool.and_assoc]
theorem spec_l9Names.sp {d : Nat} (hd : 5 ≤ d) {x : Df} (h : dfFit 140737488351232 x) : spec_l9Names.f d (x.1, x.2.1, x.2.2.1, x.2.2.2) = some (namesM x) := by
 obtain ⟨d, rfl, _⟩ := dep hd
 rw [spec_l9Names.t_eq]
 dsimp only [spec_l9Names.m]
 obtain ⟨h0, ⟨h1, h2⟩, h3, h4, h5⟩ := h
 refine Tells.eq (loopAnd (spec_l9Names.S0 d) x.2.1 (fun i => (i, x.1, x.2.1, x.2.2.1, x.2.2.2)) (fun c => freeM c.1) _ (by omega) (fun L => ?_) fun L i hi e ih => ?_)
 ·dsimp only [spec_l9Names.S0, spec_l9Names.s0]
  refine tn (by omega) ?_
  refine loopAnd (spec_l9Names.S2 d) x.2.2.2 (fun i => (i, x.1, x.2.1, x.2.2.1, x.2.2.2)) (fun c => freeM c.1) _ (by omega) (fun L => ?_) fun L i hi e ih => ?_
  ·dsimp only [spec_l9Names.S2, spec_l9Names.s2]
   exact tn (by omega) (tc (spec_l9Word.sp (by omega) h0) (tl rfl))
  ·dsimp only [spec_l9Names.S2, spec_l9Names.s2]
   refine tp (by omega) (ti hi ?_)
   rw [getD_in hi, wrap_succ (by omega)]
   refine tc (spec_l9Word.sp (by omega) (h5 _ (List.getElem_mem hi)).1) ?_
   cases freeM x.2.2.2[i].1
   ·exact tt rfl (tl rfl)
   ·exact tf rfl ih
 ·dsimp only [spec_l9Names.S0, spec_l9Names.s0]
  refine tp (by omega) (ti hi ?_)
  rw [getD_in hi, wrap_succ (by omega)]
  refine tc (spec_l9Word.sp (by omega) (h2 _ (List.getElem_mem hi))) ?_
  cases freeM x.2.1[i].1
  ·exact tt rfl (tl rfl)
  ·exact tf rfl ih
theorem spec_l9Types.sp {d : Nat} (hd : 2 ≤ d) {x : Df} (h : dfFit 140737488351232 x) : spec_l9Types.f d (x.1, x.2.1, x.2.2.1, x.2.2.2) = some (typesM x.2.1) := by
 obtain ⟨d, rfl, _⟩ := dep hd
 rw [spec_l9Types.t_eq]
 dsimp only [spec_l9Types.m]
 have h1 := h.2.1.1
 refine Tells.eq (loopAnd (spec_l9Types.S0 d) x.2.1 (fun i => (i, x.1, x.2.1, x.2.2.1, x.2.2.2)) (fun c => inB c.2.1 1 4) _ (by omega) (fun L => ?_) fun L i hi e ih => ?_)
 ·dsimp only [spec_l9Types.S0, spec_l9Types.s0]
  exact tn (by omega) (tc (spec_l1In.sp (by omega) _ _ _) (tl rfl))
 ·dsimp only [spec_l9Types.S0, spec_l9Types.s0]
  refine tp (by omega) (ti hi ?_)
  rw [getD_in hi, wrap_succ (by omega)]
  refine tc (spec_l1In.sp (by omega) _ _ _) ?_
  cases inB x.2.1[i].2.1 1 4
  ·exact tt rfl (tl rfl)
  ·exact tf rfl ih
def firstI (s : ByteArray) : Nat → List Col → Int
 | _, [] => -1
 | n, x :: r => bif isT x.1 s then (n : Int) else firstI s (n + 1) r
theorem spec_l9Col.sp {d : Nat} (hd : 1 ≤ d) {x : Df} (h : x.2.1.length ≤ 140737488351232) (s : ByteArray) : spec_l9Col.f d (x.1, x.2.1, x.2.2.1, x.2.2.2, s) = some (firstI s 0 x.2.1) := by
 obtain ⟨d, rfl, _⟩ := dep hd
 rw [spec_l9Col.t_eq]
 dsimp only [spec_l9Col.m]
 refine Tells.eq (loopL (spec_l9Col.S0 d) x.2.1 (fun i => (s, i, x.1, x.2.1, x.2.2.1, x.2.2.2)) (fun i r => firstI s i r) (by omega) (fun L => ?_) fun L i hi ih => ?_)
 ·dsimp only [spec_l9Col.S0, spec_l9Col.s0]
  exact tn (by omega) (tl rfl)
 ·dsimp only [spec_l9Col.S0, spec_l9Col.s0]
  refine tp (by omega) (ti hi ?_)
  rw [getD_in hi, wrap_succ (by omega), firstI]
  exact tbif (fun c => tl (by rw [show isT x.2.1[i].1 s = true from c]; rfl)) fun c => by rw [show isT x.2.1[i].1 s = false from c]; exact ih
theorem firstI_app (s : ByteArray) (x : Col) (r : List Col) (hx : isT x.1 s = true) : ∀ (p : List Col) (n : Nat), (p.any (fun y => isT y.1 s) = true → firstI s n (p ++ x :: r) < (n + p.length : Nat)) ∧ (p.any (fun y => isT y.1 s) = false → firstI s n (p ++ x :: r) = (n + p.length : Nat))
 | [], n => ⟨fun h => by simp at h, fun _ => by simp [firstI, hx]⟩
 | y :: p, n => by
  have ih := firstI_app s x r hx p (n + 1)
  rw [List.cons_append, firstI, List.any_cons, List.length_cons]
  cases c : isT y.1 s
  ·rw [Bool.false_or]
   exact ⟨fun h => by have := ih.1 h; simp only [cond_false]; omega, fun h => by have := ih.2 h; simp only [cond_false]; omega⟩
  ·exact ⟨fun _ => by simp only [cond_true]; omega, fun h => by simp at h⟩
theorem isT_self (a : ByteArray) : isT a a = true := isT_iff.2 rfl
theorem take_succ' {β : Type} {l : List β} {i : Nat} (hi : i < l.length) : l.take (i + 1) = l.take i ++ [l[i]] := by
 rw [List.take_add_one, List.getElem?_eq_getElem hi]; rfl
theorem loopAhead {A R β : Type} (s : (A → Option R) → A → Option R) (l : List β) (n : Nat) (hn : n ≤ l.length) (mk : Int → A) (p : β → Bool) (v R0 : R) (hl : l.length ≤ 4611686018427387904)
  (base : ∀ L, Tells (s L (mk (n : Int))) (· = R0))
  (step : ∀ L i (hi : i < n) e, Tells (L (mk ((i + 1 : Nat) : Int))) (· = e) → Tells (s L (mk (i : Int))) (· = bif p l[i] then v else e)) :
  Tells (iter s rnds (mk (0 : Int))) (· = bif (l.take n).any p then v else R0) := by
 have hlen : (l.take n).length = n := by rw [List.length_take]; omega
 refine loopStop s (l.take n) mk p v R0 (by omega) (fun L => by rw [hlen]; exact base L) fun L i hi e ih => ?_
 have hi' : i < n := by omega
 have := step L i hi' e ih
 rwa [show (l.take n)[i] = l[i] by simp]
theorem spec_l9Once.sp {d : Nat} (hd : 2 ≤ d) {x : Df} (h : dfFit 140737488351232 x) : spec_l9Once.f d (x.1, x.2.1, x.2.2.1, x.2.2.2) = some (onceM x) := by
 obtain ⟨d, rfl, _⟩ := dep hd
 rw [spec_l9Once.t_eq]
 dsimp only [spec_l9Once.m]
 have h1 := h.2.1.1
 have h4 := h.2.2.2.1
 have two : Tells (iter (spec_l9Once.S2 d) rnds ((0 : Int), x.1, x.2.1, x.2.2.1, x.2.2.2)) (· = onceR [] (x.2.2.2.map (·.1))) := by
  refine loopL (spec_l9Once.S2 d) x.2.2.2 (fun i => (i, x.1, x.2.1, x.2.2.1, x.2.2.2)) (fun i (r : List Ix) => onceR ((x.2.2.2.take i).map (·.1)) (r.map (·.1))) (by omega) (fun L => ?_) fun L i hi ih => ?_
  ·dsimp only [spec_l9Once.S2, spec_l9Once.s2]
   exact tn (by omega) (tl rfl)
  ·dsimp only [spec_l9Once.S2, spec_l9Once.s2]
   refine tp (by omega) ?_
   have := loopAhead (spec_l9Once.S4 d L) x.2.2.2 i (by omega) (fun j => ((i : Int), j, x.1, x.2.1, x.2.2.1, x.2.2.2)) (fun y => isT y.1 x.2.2.2[i].1) false (onceR ((x.2.2.2.take (i + 1)).map fun c => c.1) ((x.2.2.2.drop (i + 1)).map fun c => c.1)) (by omega) (fun L4 => ?_) fun L4 j hj e ih2 => ?_
   ·refine this.mono fun r hr => ?_
    rw [hr, List.map_cons, onceR, List.any_map, take_succ' hi, List.map_append]
    show (bif (x.2.2.2.take i).any (fun y => isT y.1 x.2.2.2[i].1) then false else _) = (!((x.2.2.2.take i).any ((fun y => isT y x.2.2.2[i].1) ∘ (·.1))) && _)
    rw [show ((fun y => isT y x.2.2.2[i].1) ∘ (·.1) : Ix → Bool) = fun y => isT y.1 x.2.2.2[i].1 from rfl]
    cases (x.2.2.2.take i).any fun y => isT y.1 x.2.2.2[i].1
    ·exact (rfl : onceR ((x.2.2.2.take i).map (·.1) ++ [x.2.2.2[i].1]) _ = _)
    ·rfl
   ·dsimp only [spec_l9Once.S4, spec_l9Once.s4]
    refine tn (by omega) ?_
    rw [wrap_succ (by omega)]
    exact ih
   ·dsimp only [spec_l9Once.S4, spec_l9Once.s4]
    refine tp (by omega) (ti (by omega) (ti hi ?_))
    rw [getD_in hi, getD_in (show j < x.2.2.2.length by omega), wrap_succ (by omega)]
    exact tbif (fun c => tl (by rw [show isT _ _ = true from c]; rfl)) fun c => by rw [show isT _ _ = false from c]; exact ih2
 suffices g : Tells (iter (spec_l9Once.S0 d) rnds ((0 : Int), x.1, x.2.1, x.2.2.1, x.2.2.2)) (· = (onceR [] (x.2.1.map fun c => c.1) && onceR [] (x.2.2.2.map fun c => c.1))) from g.eq
 refine (loopL (spec_l9Once.S0 d) x.2.1 (fun i => (i, x.1, x.2.1, x.2.2.1, x.2.2.2)) (fun i (r : List Col) => onceR ((x.2.1.take i).map fun c => c.1) (r.map fun c => c.1) && onceR [] (x.2.2.2.map fun c => c.1)) (by omega) (fun L => ?_) fun L i hi ih => ?_)
 ·dsimp only [spec_l9Once.S0, spec_l9Once.s0]
  exact tn (by omega) (two.mono fun r hr => by rw [hr]; rfl)
 ·dsimp only [spec_l9Once.S0, spec_l9Once.s0]
  refine tp (by omega) (ti hi ?_)
  rw [getD_in hi, wrap_succ (by omega)]
  refine tc (spec_l9Col.sp (by omega) h1 _) ?_
  have tk : (x.2.1.take i).length = i := by rw [List.length_take]; omega
  have f := firstI_app x.2.1[i].1 x.2.1[i] (x.2.1.drop (i + 1)) (isT_self _) (x.2.1.take i) 0
  rw [← drop_at hi, List.take_append_drop, tk, Nat.zero_add] at f
  rw [List.map_cons, onceR, List.any_map]
  rw [take_succ' hi, List.map_append] at ih
  rw [show ((fun y => isT y x.2.1[i].1) ∘ (·.1) : Col → Bool) = fun y => isT y.1 x.2.1[i].1 from rfl]
  cases c : (x.2.1.take i).any fun y => isT y.1 x.2.1[i].1
  ·exact tf (by rw [f.2 c]; simp) ih
  ·exact tt (by have := f.1 c; simp; omega) (tl rfl)
theorem impl_twice.sp {d : Nat} (hd : 1 ≤ d) {x : Df} (h : dfFit 140737488351232 x) : impl_twice.f d (x.1, x.2.1, x.2.2.1, x.2.2.2) = some (!(onceM x)) := by
 obtain ⟨d, rfl, _⟩ := dep hd
 rw [impl_twice.t_eq]
 dsimp only [impl_twice.m]
 have h1 := h.2.1.1
 have h4 := h.2.2.2.1
 have two : Tells (iter (impl_twice.S4 d) rnds (x.2.2.2, (x.2.2.2.length : Int), (0 : Int), x.1, x.2.1, x.2.2.1, x.2.2.2)) (· = !(onceR [] (x.2.2.2.map (·.1)))) := by
  refine loopL (impl_twice.S4 d) x.2.2.2 (fun i => (x.2.2.2, (x.2.2.2.length : Int), i, x.1, x.2.1, x.2.2.1, x.2.2.2)) (fun i (r : List Ix) => !(onceR ((x.2.2.2.take i).map (·.1)) (r.map (·.1)))) (by omega) (fun L => ?_) fun L i hi ih => ?_
  ·dsimp only [impl_twice.S4, impl_twice.s4]
   exact tn (by omega) (tl rfl)
  ·dsimp only [impl_twice.S4, impl_twice.s4]
   have tk : (x.2.2.2.take i).length = i := by rw [List.length_take]; omega
   refine tp (by omega) (ti hi (tt (by simp; omega) ?_))
   rw [getD_in hi, Int.toNat_natCast, Int.toNat_zero, List.drop_zero]
   have := loopStop (impl_twice.S6 d L) (x.2.2.2.take i) (fun j => (x.2.2.2, (x.2.2.2.length : Int), (i : Int), x.2.2.2.take i, ((x.2.2.2.take i).length : Int), j, x.1, x.2.1, x.2.2.1, x.2.2.2, x.2.2.2[i].1, x.2.2.2[i].2.1, x.2.2.2[i].2.2)) (fun y => isT y.1 x.2.2.2[i].1) true (!(onceR ((x.2.2.2.take (i + 1)).map fun c => c.1) ((x.2.2.2.drop (i + 1)).map fun c => c.1))) (by omega) (fun L6 => ?_) fun L6 j hj e ih2 => ?_
   ·refine this.mono fun r hr => ?_
    rw [hr, List.map_cons, onceR, List.any_map, take_succ' hi, List.map_append]
    rw [show ((fun y => isT y x.2.2.2[i].1) ∘ (·.1) : Ix → Bool) = fun y => isT y.1 x.2.2.2[i].1 from rfl]
    cases (x.2.2.2.take i).any fun y => isT y.1 x.2.2.2[i].1
    ·exact (rfl : (!onceR ((x.2.2.2.take i).map (·.1) ++ [x.2.2.2[i].1]) _) = _)
    ·rfl
   ·dsimp only [impl_twice.S6, impl_twice.s6]
    refine tn (by omega) ?_
    rw [wrap_succ (by omega)]
    exact ih
   ·dsimp only [impl_twice.S6, impl_twice.s6]
    refine tp (by omega) (ti hj ?_)
    rw [getD_in hj, wrap_succ (by omega)]
    exact tbif (fun c => tl (by rw [show isT _ _ = true from c]; rfl)) fun c => by rw [show isT _ _ = false from c]; exact ih2
 suffices g : Tells (iter (impl_twice.S0 d) rnds (x.2.1, (x.2.1.length : Int), (0 : Int), x.1, x.2.1, x.2.2.1, x.2.2.2)) (· = !(onceR [] (x.2.1.map fun c => c.1) && onceR [] (x.2.2.2.map fun c => c.1))) from g.eq
 refine (loopL (impl_twice.S0 d) x.2.1 (fun i => (x.2.1, (x.2.1.length : Int), i, x.1, x.2.1, x.2.2.1, x.2.2.2)) (fun i (r : List Col) => !(onceR ((x.2.1.take i).map fun c => c.1) (r.map fun c => c.1) && onceR [] (x.2.2.2.map fun c => c.1))) (by omega) (fun L => ?_) fun L i hi ih => ?_)
 ·dsimp only [impl_twice.S0, impl_twice.s0]
  exact tn (by omega) (two.mono fun r hr => by rw [hr]; rfl)
 ·dsimp only [impl_twice.S0, impl_twice.s0]
  have tk : (x.2.1.take i).length = i := by rw [List.length_take]; omega
  refine tp (by omega) (ti hi (tt (by simp; omega) ?_))
  rw [getD_in hi, Int.toNat_natCast, Int.toNat_zero, List.drop_zero]
  have := loopStop (impl_twice.S2 d L) (x.2.1.take i) (fun j => (x.2.1, (x.2.1.length : Int), (i : Int), x.2.1.take i, ((x.2.1.take i).length : Int), j, x.1, x.2.1, x.2.2.1, x.2.2.2, x.2.1[i].1, x.2.1[i].2.1, x.2.1[i].2.2)) (fun y => isT y.1 x.2.1[i].1) true (!(onceR ((x.2.1.take (i + 1)).map fun c => c.1) ((x.2.1.drop (i + 1)).map fun c => c.1) && onceR [] (x.2.2.2.map fun c => c.1))) (by omega) (fun L2 => ?_) fun L2 j hj e ih2 => ?_
  ·refine this.mono fun r hr => ?_
   rw [hr, List.map_cons, onceR, List.any_map, take_succ' hi, List.map_append]
   rw [show ((fun y => isT y x.2.1[i].1) ∘ (·.1) : Col → Bool) = fun y => isT y.1 x.2.1[i].1 from rfl]
   cases (x.2.1.take i).any fun y => isT y.1 x.2.1[i].1
   ·exact (rfl : (!(onceR ((x.2.1.take i).map (·.1) ++ [x.2.1[i].1]) _ && _)) = _)
   ·rfl
  ·dsimp only [impl_twice.S2, impl_twice.s2]
   refine tn (by omega) ?_
   rw [wrap_succ (by omega)]
   exact ih
  ·dsimp only [impl_twice.S2, impl_twice.s2]
   refine tp (by omega) (ti hj ?_)
   rw [getD_in hj, wrap_succ (by omega)]
   exact tbif (fun c => tl (by rw [show isT _ _ = true from c]; rfl)) fun c => by rw [show isT _ _ = false from c]; exact ih2
theorem words_split : splitL (⟨#[116, 97, 98, 108, 101, 32, 112, 114, 105, 109, 97, 114, 121, 32, 117, 110, 105, 113, 117, 101, 32, 105, 110, 100, 101, 120, 32, 110, 117, 108, 108, 32, 100, 101, 115, 99, 32, 105, 110, 116, 32, 110, 117, 109, 32, 116, 101, 120, 116, 32, 98, 111, 111, 108]⟩ : ByteArray) = wordsL := by kernel_rfl
theorem impl_isFree.sp {d : Nat} (hd : 3 ≤ d) {s : ByteArray} (hs : s.size ≤ 140737488351232) : impl_isFree.f d s = some (freeM s) := by
 obtain ⟨d, rfl, _⟩ := dep hd
 rw [impl_isFree.t_eq]
 dsimp only [impl_isFree.m]
 obtain ⟨d, rfl, _⟩ := dep (show 1 + 1 ≤ d by omega)
 rw [strings_Split.t_eq]
 have e : splitLaw ((⟨#[116, 97, 98, 108, 101, 32, 112, 114, 105, 109, 97, 114, 121, 32, 117, 110, 105, 113, 117, 101, 32, 105, 110, 100, 101, 120, 32, 110, 117, 108, 108, 32, 100, 101, 115, 99, 32, 105, 110, 116, 32, 110, 117, 109, 32, 116, 101, 120, 116, 32, 98, 111, 111, 108]⟩ : ByteArray), (⟨#[32]⟩ : ByteArray)) = some wordsL := by
  unfold splitLaw
  rw [if_pos ⟨rfl, by decide⟩, words_split]
 refine Tells.eq (tc e ?_)
 have := loopStop (impl_isFree.S0 (d + 1)) wordsL (fun i => (s, (wordsL.length : Int), i, wordsL)) (fun w => isT w s) false (nameM s.size 0 (bytesOf s)) (by decide) (fun L => ?_) fun L i hi e ih => ?_
 ·refine this.mono fun r hr => ?_
  rw [hr]; unfold freeM; cases (wordsL.any fun w => isT w s) <;> simp
 ·dsimp only [impl_isFree.S0, impl_isFree.s0]
  exact tn (by omega) (tc (impl_nameOk.sp (by omega) hs) (tl rfl))
 ·dsimp only [impl_isFree.S0, impl_isFree.s0]
  have h10 : wordsL.length = 10 := rfl
  refine tp (by omega) (ti hi ?_)
  rw [getD_in hi, wrap_succ (by omega)]
  exact tbif (fun c => tl (by rw [show isT wordsL[i] s = true from c]; rfl)) fun c => by rw [show isT wordsL[i] s = false from c]; exact ih
theorem impl_namesOk.sp {d : Nat} (hd : 4 ≤ d) {x : Df} (h : dfFit 140737488351232 x) : impl_namesOk.f d (x.1, x.2.1, x.2.2.1, x.2.2.2) = some (namesM x) := by
 obtain ⟨d, rfl, _⟩ := dep hd
 rw [impl_namesOk.t_eq]
 dsimp only [impl_namesOk.m]
 obtain ⟨h0, ⟨h1, h2⟩, h3, h4, h5⟩ := h
 refine Tells.eq (loopAnd (impl_namesOk.S0 d) x.2.1 (fun i => (x.2.1, (x.2.1.length : Int), i, x.1, x.2.1, x.2.2.1, x.2.2.2)) (fun c => freeM c.1) _ (by omega) (fun L => ?_) fun L i hi e ih => ?_)
 ·dsimp only [impl_namesOk.S0, impl_namesOk.s0]
  refine tn (by omega) ?_
  refine loopAnd (impl_namesOk.S2 d) x.2.2.2 (fun i => (x.2.2.2, (x.2.2.2.length : Int), i, x.1, x.2.1, x.2.2.1, x.2.2.2)) (fun c => freeM c.1) _ (by omega) (fun L => ?_) fun L i hi e ih => ?_
  ·dsimp only [impl_namesOk.S2, impl_namesOk.s2]
   exact tn (by omega) (tc (impl_isFree.sp (by omega) h0) (tl rfl))
  ·dsimp only [impl_namesOk.S2, impl_namesOk.s2]
   refine tp (by omega) (ti hi ?_)
   rw [getD_in hi, wrap_succ (by omega)]
   refine tc (impl_isFree.sp (by omega) (h5 _ (List.getElem_mem hi)).1) ?_
   cases freeM x.2.2.2[i].1
   ·exact tt rfl (tl rfl)
   ·exact tf rfl ih
 ·dsimp only [impl_namesOk.S0, impl_namesOk.s0]
  refine tp (by omega) (ti hi ?_)
  rw [getD_in hi, wrap_succ (by omega)]
  refine tc (impl_isFree.sp (by omega) (h2 _ (List.getElem_mem hi))) ?_
  cases freeM x.2.1[i].1
  ·exact tt rfl (tl rfl)
  ·exact tf rfl ih
def partsA (n : Int) (q : Nat → By → Bool) (e : Bool) : Nat → List By → Bool
 | _, [] => e
 | i, x :: r => inB x.1 0 (n - 1) && (!(q i x) && partsA n q e (i + 1) r)
theorem partsA_no (n : Int) (q : Nat → By → Bool) : ∀ (r : List By) (i : Nat), partsA n q false i r = false
 | [], _ => rfl
 | x :: r, i => by rw [partsA, partsA_no n q r]; simp
theorem partsA_eq {n : Int} {q : Nat → By → Bool} {l : List By} (h0 : ∀ a r, l = a :: r → q 0 a = false) (h1 : ∀ a b r, l = a :: b :: r → q 1 b = decide (a.1 = b.1)) : partsA n q (inB l.length 1 2) 0 l = partsM n l := by
 cases c : inB l.length 1 2 with
 | false => rw [partsA_no, partsM_not (by rw [c]; simp)]
 | true =>
  have := inB_iff.1 c
  match l, h0, h1, this with
  | [], _, _, h => simp at h
  | [a], h0, _, _ => simp [partsA, partsM, h0 a [] rfl]
  | [a, b], h0, h1, _ => simp [partsA, partsM, h0 a [b] rfl, h1 a b [] rfl]
  | _ :: _ :: _ :: r, _, _, h => simp only [List.length_cons] at h; omega
theorem spec_l9Parts.sp {d : Nat} (hd : 2 ≤ d) {x : Df} (hc : x.2.1.length ≤ 140737488351232) {l : List By} (hl : l.length ≤ 140737488351232) : spec_l9Parts.f d (x.1, x.2.1, x.2.2.1, x.2.2.2, l) = some (partsM x.2.1.length l) := by
 obtain ⟨d, rfl, _⟩ := dep hd
 rw [spec_l9Parts.t_eq]
 dsimp only [spec_l9Parts.m]
 have wr : IntKind.wrap IntKind.i64 ((x.2.1.length : Int) - 1) = (x.2.1.length : Int) - 1 := wrap_id (by omega) (by omega)
 have one : ∀ L i (hi : i < l.length) e, Tells (L (l, ((i + 1 : Nat) : Int), x.1, x.2.1, x.2.2.1, x.2.2.2)) (· = e) → Tells (spec_l9Parts.S0 d L (l, (i : Int), x.1, x.2.1, x.2.2.1, x.2.2.2)) (· = (inB l[i].1 0 ((x.2.1.length : Int) - 1) && (!(decide (0 < i) && decide (l[0].1 = l[i].1)) && e))) := by
  intro L i hi e ih
  dsimp only [spec_l9Parts.S0, spec_l9Parts.s0]
  refine tp (by omega) (ti hi ?_)
  rw [getD_in hi, wrap_succ (by omega), wr]
  refine tc (spec_l1In.sp (by omega) _ _ _) ?_
  cases inB l[i].1 0 ((x.2.1.length : Int) - 1)
  ·exact tt rfl (tl rfl)
  refine tf rfl ?_
  by_cases c : i = 0
  ·subst c
   exact tn (by omega) (ih.mono fun r hr => by rw [hr]; rfl)
  ·refine tp (by omega) (tt (by simp; omega) (ti hi ?_))
   have h0 : 0 < l.length := by omega
   have e0 : List.getD l (Int.toNat (0 : Int)) ((0 : Int), false) = l[0] := getD_in h0
   rw [e0]
   refine tbif (fun c2 => tl ?_) fun c2 => ih.mono fun r hr => ?_
   ·have c2 := beq_iff_eq.1 c2
    rw [decide_eq_true (show 0 < i by omega), decide_eq_true c2]; rfl
   ·have c2 := beq_eq_false_iff_ne.1 c2
    rw [hr, decide_eq_false c2]; simp
 have last : ∀ L, Tells (spec_l9Parts.S0 d L (l, (l.length : Int), x.1, x.2.1, x.2.2.1, x.2.2.2)) (· = inB l.length 1 2) := fun L => by
  dsimp only [spec_l9Parts.S0, spec_l9Parts.s0]
  exact tn (by omega) (tc (spec_l1In.sp (by omega) _ _ _) (tl rfl))
 have g := loopL (spec_l9Parts.S0 d) l (fun i => (l, i, x.1, x.2.1, x.2.2.1, x.2.2.2)) (fun i r => partsA x.2.1.length (fun i y => decide (0 < i) && decide ((l.head?.map (·.1)) = some y.1)) (inB l.length 1 2) i r) (by omega) (fun L => (last L).mono fun r hr => hr) fun L i hi ih => (one L i hi _ ih).mono fun r hr => by
  rw [hr, partsA]
  have : l.head? = some l[0] := by rw [List.head?_eq_getElem?, List.getElem?_eq_getElem (by omega)]
  rw [this]
  simp
 refine Tells.eq (g.mono fun r hr => ?_)
 rw [hr]
 exact partsA_eq (fun a r h => by simp) fun a b r h => by rw [h]; simp
theorem impl_partsOk.sp {d : Nat} (hd : 2 ≤ d) {x : Df} (hc : x.2.1.length ≤ 140737488351232) {l : List By} (hl : l.length ≤ 140737488351232) : impl_partsOk.f d (x.1, x.2.1, x.2.2.1, x.2.2.2, l) = some (partsM x.2.1.length l) := by
 obtain ⟨d, rfl, _⟩ := dep hd
 rw [impl_partsOk.t_eq]
 dsimp only [impl_partsOk.m]
 have wr : IntKind.wrap IntKind.i64 ((x.2.1.length : Int) - 1) = (x.2.1.length : Int) - 1 := wrap_id (by omega) (by omega)
 have g := loopL (impl_partsOk.S0 d) l (fun i => (l, l, (l.length : Int), i, x.1, x.2.1, x.2.2.1, x.2.2.2)) (fun i r => partsA x.2.1.length (fun i y => (l.take i).any fun z => z.1 == y.1) (inB l.length 1 2) i r) (by omega) (fun L => ?_) fun L i hi ih => ?_
 ·refine Tells.eq (g.mono fun r hr => ?_)
  rw [hr]
  exact partsA_eq (fun a r h => by simp) fun a b r h => by rw [h]; simp [Bool.beq_eq_decide_eq]
 ·dsimp only [impl_partsOk.S0, impl_partsOk.s0]
  exact tn (by omega) (tc (impl_in.sp (by omega) _ _ _) (tl rfl))
 ·dsimp only [impl_partsOk.S0, impl_partsOk.s0]
  have tk : (l.take i).length = i := by rw [List.length_take]; omega
  refine tp (by omega) (ti hi ?_)
  rw [getD_in hi, wr, Int.toNat_natCast, Int.toNat_zero, List.drop_zero, partsA]
  refine tc (impl_in.sp (by omega) _ _ _) ?_
  cases inB l[i].1 0 ((x.2.1.length : Int) - 1)
  ·exact tt rfl (tl rfl)
  refine tf rfl (tt (by simp; omega) ?_)
  have := loopStop (impl_partsOk.S2 d L) (l.take i) (fun j => (l, l, (l.length : Int), (i : Int), l.take i, ((l.take i).length : Int), j, x.1, x.2.1, x.2.2.1, x.2.2.2, l[i].1, l[i].2)) (fun z => z.1 == l[i].1) false (partsA x.2.1.length (fun i y => (l.take i).any fun z => z.1 == y.1) (inB l.length 1 2) (i + 1) (l.drop (i + 1))) (by omega) (fun L2 => ?_) fun L2 j hj e ih2 => ?_
  ·refine this.mono fun r hr => ?_
   rw [hr]
   cases (l.take i).any fun z => z.1 == l[i].1 <;> simp
  ·dsimp only [impl_partsOk.S2, impl_partsOk.s2]
   refine tn (by omega) ?_
   rw [wrap_succ (by omega)]
   exact ih
  ·dsimp only [impl_partsOk.S2, impl_partsOk.s2]
   refine tp (by omega) (ti hj ?_)
   rw [getD_in hj, wrap_succ (by omega)]
   exact tbif (fun c => tl (by rw [c]; rfl)) fun c => by rw [c]; exact ih2
theorem spec_l9AllParts.sp {d : Nat} (hd : 3 ≤ d) {x : Df} (h : dfFit 140737488351232 x) : spec_l9AllParts.f d (x.1, x.2.1, x.2.2.1, x.2.2.2) = some (allPartsM x) := by
 obtain ⟨d, rfl, _⟩ := dep hd
 rw [spec_l9AllParts.t_eq]
 dsimp only [spec_l9AllParts.m]
 obtain ⟨h0, ⟨h1, h2⟩, h3, h4, h5⟩ := h
 refine Tells.eq (loopAnd (spec_l9AllParts.S0 d) x.2.2.2 (fun i => (i, x.1, x.2.1, x.2.2.1, x.2.2.2)) (fun c => partsM x.2.1.length c.2.2) _ (by omega) (fun L => ?_) fun L i hi e ih => ?_)
 ·dsimp only [spec_l9AllParts.S0, spec_l9AllParts.s0]
  exact tn (by omega) (tc (spec_l9Parts.sp (by omega) h1 h3) (tl rfl))
 ·dsimp only [spec_l9AllParts.S0, spec_l9AllParts.s0]
  refine tp (by omega) (ti hi ?_)
  rw [getD_in hi, wrap_succ (by omega)]
  refine tc (spec_l9Parts.sp (by omega) h1 (h5 _ (List.getElem_mem hi)).2) ?_
  cases partsM x.2.1.length x.2.2.2[i].2.2
  ·exact tt rfl (tl rfl)
  ·exact tf rfl ih
theorem spec_CheckDef.sp {d : Nat} (hd : 6 ≤ d) {x : Df} (h : dfFit 140737488351232 x) : spec_CheckDef.f d (x.1, x.2.1, x.2.2.1, x.2.2.2) = some (checkM x) := by
 obtain ⟨d, rfl, _⟩ := dep hd
 rw [spec_CheckDef.t_eq]
 dsimp only [spec_CheckDef.m]
 unfold checkM
 refine Tells.eq (tc (spec_l9Names.sp (by omega) h) ?_)
 cases namesM x
 ·exact tt rfl (tl rfl)
 refine tf rfl (tc (spec_l9Types.sp (by omega) h) ?_)
 cases typesM x.2.1
 ·exact tt rfl (tl rfl)
 refine tf rfl (tc (spec_l9Once.sp (by omega) h) ?_)
 cases onceM x
 ·exact tt rfl (tl rfl)
 refine tf rfl (tif (fun c => tl (by rw [decide_eq_true c]; rfl)) fun c => ?_)
 rw [decide_eq_false c]
 refine tc (spec_l9AllParts.sp (by omega) h) ?_
 cases c2 : allPartsM x
 ·exact tt rfl (tl rfl)
 refine tf rfl ?_
 have pin := partsM_in (allParts_of c2).1
 have h3 := h.2.2.1
 refine loopStop (spec_CheckDef.S1 d) x.2.2.1 (fun i => (i, x.1, x.2.1, x.2.2.1, x.2.2.2)) (nullAt x.2.1) (4 : Int) (0 : Int) (by omega) (fun L => ?_) fun L i hi e ih => ?_
 ·dsimp only [spec_CheckDef.S1, spec_CheckDef.s1]
  exact tn (by omega) (tl rfl)
 ·dsimp only [spec_CheckDef.S1, spec_CheckDef.s1]
  refine tp (by omega) (ti hi ?_)
  rw [getD_in hi, wrap_succ (by omega)]
  have q := pin _ (List.getElem_mem hi)
  refine tt (by rw [decide_eq_true q.1, decide_eq_true q.2]; rfl) (tbif (fun c => tl ?_) fun c => ?_)
  ·rw [show nullAt x.2.1 x.2.2.1[i] = true from c]; rfl
  ·rw [show nullAt x.2.1 x.2.2.1[i] = false from c]; exact ih
theorem impl_CheckDef.sp {d : Nat} (hd : 5 ≤ d) {x : Df} (h : dfFit 140737488351232 x) : impl_CheckDef.f d (x.1, x.2.1, x.2.2.1, x.2.2.2) = some (checkM x) := by
 obtain ⟨d, rfl, _⟩ := dep hd
 rw [impl_CheckDef.t_eq]
 dsimp only [impl_CheckDef.m]
 have ⟨h0, ⟨h1, h2⟩, h3, h4, h5⟩ := h
 have e4 : partsM x.2.1.length x.2.2.1 = true → Tells (iter (impl_CheckDef.S4 d) rnds (x.2.2.1, (x.2.2.1.length : Int), (0 : Int), x.1, x.2.1, x.2.2.1, x.2.2.2)) (· = bif x.2.2.1.any (nullAt x.2.1) then 4 else 0) := fun c2 => by
  have pin := partsM_in c2
  refine loopStop (impl_CheckDef.S4 d) x.2.2.1 (fun i => (x.2.2.1, (x.2.2.1.length : Int), i, x.1, x.2.1, x.2.2.1, x.2.2.2)) (nullAt x.2.1) (4 : Int) (0 : Int) (by omega) (fun L => ?_) fun L i hi e ih => ?_
  ·dsimp only [impl_CheckDef.S4, impl_CheckDef.s4]
   exact tn (by omega) (tl rfl)
  ·dsimp only [impl_CheckDef.S4, impl_CheckDef.s4]
   refine tp (by omega) (ti hi ?_)
   rw [getD_in hi, wrap_succ (by omega)]
   have q := pin _ (List.getElem_mem hi)
   refine tt (by rw [decide_eq_true q.1, decide_eq_true q.2]; rfl) (tbif (fun c => tl ?_) fun c => ?_)
   ·rw [show nullAt x.2.1 x.2.2.1[i] = true from c]; rfl
   ·rw [show nullAt x.2.1 x.2.2.1[i] = false from c]; exact ih
 have e2 : Tells (iter (impl_CheckDef.S2 d) rnds (x.2.2.2, (x.2.2.2.length : Int), (0 : Int), x.1, x.2.1, x.2.2.1, x.2.2.2)) (· = bif allPartsM x then (bif x.2.2.1.any (nullAt x.2.1) then 4 else 0) else 5) := by
  have g := loopStop (impl_CheckDef.S2 d) x.2.2.2 (fun i => (x.2.2.2, (x.2.2.2.length : Int), i, x.1, x.2.1, x.2.2.1, x.2.2.2)) (fun c => !(partsM x.2.1.length c.2.2)) (5 : Int) (bif partsM x.2.1.length x.2.2.1 then (bif x.2.2.1.any (nullAt x.2.1) then 4 else 0) else 5) (by omega) (fun L => ?_) fun L i hi e ih => ?_
  ·refine g.mono fun r hr => ?_
   rw [hr]
   unfold allPartsM
   rw [← List.not_all_eq_any_not]
   cases x.2.2.2.all (fun c => partsM x.2.1.length c.2.2) <;> cases partsM x.2.1.length x.2.2.1 <;> rfl
  ·dsimp only [impl_CheckDef.S2, impl_CheckDef.s2]
   refine tn (by omega) (tc (impl_partsOk.sp (by omega) h1 h3) ?_)
   cases c : partsM x.2.1.length x.2.2.1
   ·exact tt rfl (tl rfl)
   ·exact tf rfl (e4 c)
  ·dsimp only [impl_CheckDef.S2, impl_CheckDef.s2]
   refine tp (by omega) (ti hi ?_)
   rw [getD_in hi, wrap_succ (by omega)]
   refine tc (impl_partsOk.sp (by omega) h1 (h5 _ (List.getElem_mem hi)).2) ?_
   cases partsM x.2.1.length x.2.2.2[i].2.2
   ·exact tt rfl (tl rfl)
   ·exact tf rfl ih
 have e0 : Tells (iter (impl_CheckDef.S0 d) rnds (x.2.1, (x.2.1.length : Int), (0 : Int), x.1, x.2.1, x.2.2.1, x.2.2.2)) (· = bif x.2.1.any (fun c => !(inB c.2.1 1 4)) then 2 else bif onceM x then (bif decide ((x.2.2.2.length : Int) > 2) then 6 else bif allPartsM x then (bif x.2.2.1.any (nullAt x.2.1) then 4 else 0) else 5) else 3) := by
  refine loopStop (impl_CheckDef.S0 d) x.2.1 (fun i => (x.2.1, (x.2.1.length : Int), i, x.1, x.2.1, x.2.2.1, x.2.2.2)) (fun c => !(inB c.2.1 1 4)) (2 : Int) _ (by omega) (fun L => ?_) fun L i hi e ih => ?_
  ·dsimp only [impl_CheckDef.S0, impl_CheckDef.s0]
   refine tn (by omega) (tc (impl_twice.sp (by omega) h) ?_)
   cases onceM x
   ·exact tt rfl (tl rfl)
   ·exact tf rfl (tif (fun c => tl (by rw [decide_eq_true c]; rfl)) fun c => by rw [decide_eq_false c]; exact e2)
  ·dsimp only [impl_CheckDef.S0, impl_CheckDef.s0]
   refine tp (by omega) (ti hi ?_)
   rw [getD_in hi, wrap_succ (by omega)]
   refine tc (impl_in.sp (by omega) _ _ _) ?_
   cases inB x.2.1[i].2.1 1 4
   ·exact tt rfl (tl rfl)
   ·exact tf rfl ih
 unfold checkM
 refine Tells.eq (tc (impl_namesOk.sp (by omega) h) ?_)
 cases namesM x
 ·exact tt rfl (tl rfl)
 refine tf rfl (tc (impl_in.sp (by omega) _ _ _) ?_)
 unfold typesM
 cases inB x.2.1.length 1 6
 ·exact tt rfl (tl (by rw [Bool.and_false]; rfl))
 refine tf rfl (e0.mono fun r hr => ?_)
 rw [hr, ← List.not_all_eq_any_not, Bool.and_true]
 cases x.2.1.all fun c => inB c.2.1 1 4 <;> rfl
abbrev w2 : By → Nat := fun _ => 2
abbrev w3 : Col → Nat := fun _ => 3
def wI (x : Ix) : Nat := 2 + 2 * x.2.2.length
def wD (x : Df) : Nat := 1 + wSum w3 x.2.1 + wSum w2 x.2.2.1 + wSum wI x.2.2.2
theorem sum_const {β : Type} (k : Nat) (l : List β) : wSum (fun _ => k) l = k * l.length := by
 induction l with
 | nil => rfl
 | cons y l ih => rw [wSum_cons, ih, List.length_cons, Nat.mul_add]; omega
theorem tneq {a b : Int} {α : Type} {x y : Option α} {Q : α → Prop} (h1 : a ≠ b → Tells x Q) (h2 : a = b → Tells y Q) : Tells (bif a != b then x else y) Q := by
 by_cases h : a = b
 ·subst h; exact tf (by simp) (h2 rfl)
 ·exact tt (by simp [h]) (h1 h)
theorem teq {a b : Int} {α : Type} {x y : Option α} {Q : α → Prop} (h1 : a = b → Tells x Q) (h2 : a ≠ b → Tells y Q) : Tells (bif a == b then x else y) Q := by
 by_cases h : a = b
 ·subst h; exact tt (by simp) (h1 rfl)
 ·exact tf (by simp [h]) (h2 h)
theorem spec_FirstBad.sp {d : Nat} (hd : 7 ≤ d) {l : List Df} (hl : l.length ≤ 140737488351232) (hx : ∀ x ∈ l, dfFit 140737488351232 x) : spec_FirstBad.f d l = some (firstM l) := by
 obtain ⟨d, rfl, _⟩ := dep hd
 rw [spec_FirstBad.t_eq]
 dsimp only [spec_FirstBad.m]
 suffices g : Tells (iter (spec_FirstBad.S0 d) rnds (l, (0 : Int))) (· = firstR l 0 l) from g.eq
 refine loopL (spec_FirstBad.S0 d) l (fun i => (l, i)) (fun i (r : List Df) => firstR l i r) (by omega) (fun L => ?_) fun L i hi ih => ?_
 ·dsimp only [spec_FirstBad.S0, spec_FirstBad.s0]
  exact tn (by omega) (tl rfl)
 ·dsimp only [spec_FirstBad.S0, spec_FirstBad.s0]
  refine tp (by omega) (ti hi ?_)
  rw [getD_in hi, firstR]
  refine tc (spec_CheckDef.sp (by omega) (hx _ (List.getElem_mem hi))) (tneq (fun c => tl (by rw [decide_eq_false c]; rfl)) fun c => tif (fun c2 => tl ?_) fun c2 => ?_)
  ·rw [decide_eq_false (show ¬ i ≤ 2 by omega), Bool.and_false]; rfl
  rw [decide_eq_true c, decide_eq_true (show i ≤ 2 by omega), decide_eq_false c2]
  refine loopAhead (spec_FirstBad.S2 d L) l i (by omega) (fun j => (l, (i : Int), j, (i : Int), false)) (fun y => isT y.1 l[i].1) (i : Int) _ (by omega) (fun L2 => ?_) fun L2 j hj e ih2 => ?_
  ·dsimp only [spec_FirstBad.S2, spec_FirstBad.s2]
   refine tn (by omega) ?_
   rw [wrap_succ (by omega)]
   exact ih
  ·dsimp only [spec_FirstBad.S2, spec_FirstBad.s2]
   refine tp (by omega) (ti (by omega) (ti hi ?_))
   rw [getD_in hi, getD_in (show j < l.length by omega), wrap_succ (by omega)]
   exact tbif (fun c => tl (by rw [show isT _ _ = true from c]; rfl)) fun c => by rw [show isT _ _ = false from c]; exact ih2
theorem impl_FirstBad.sp {d : Nat} (hd : 6 ≤ d) {l : List Df} (hl : l.length ≤ 140737488351232) (hx : ∀ x ∈ l, dfFit 140737488351232 x) : impl_FirstBad.f d l = some (firstM l) := by
 obtain ⟨d, rfl, _⟩ := dep hd
 rw [impl_FirstBad.t_eq]
 dsimp only [impl_FirstBad.m]
 suffices g : Tells (iter (impl_FirstBad.S0 d) rnds (l, l, (l.length : Int), (0 : Int))) (· = firstR l 0 l) from g.eq
 refine loopL (impl_FirstBad.S0 d) l (fun i => (l, l, (l.length : Int), i)) (fun i (r : List Df) => firstR l i r) (by omega) (fun L => ?_) fun L i hi ih => ?_
 ·dsimp only [impl_FirstBad.S0, impl_FirstBad.s0]
  exact tn (by omega) (tl rfl)
 ·dsimp only [impl_FirstBad.S0, impl_FirstBad.s0]
  have tk : (l.take i).length = i := by rw [List.length_take]; omega
  refine tp (by omega) (ti hi ?_)
  rw [getD_in hi, firstR]
  refine tif (fun c2 => tl ?_) fun c2 => ?_
  ·rw [decide_eq_false (show ¬ i ≤ 2 by omega), Bool.and_false]; rfl
  rw [decide_eq_true (show i ≤ 2 by omega), Bool.and_true]
  refine tc (impl_CheckDef.sp (by omega) (hx _ (List.getElem_mem hi))) (tneq (fun c => tl (by rw [decide_eq_false c]; rfl)) fun c => tt (by simp; omega) ?_)
  rw [decide_eq_true c, Int.toNat_natCast, Int.toNat_zero, List.drop_zero, c]
  refine loopStop (impl_FirstBad.S2 d L) (l.take i) (fun j => (l, (i : Int), l, (l.length : Int), (i : Int), l[i].1, l[i].2.1, l[i].2.2.1, l[i].2.2.2, (0 : Int), ((0 : Int) != 0), l.take i, ((l.take i).length : Int), j, l[i].1, l[i].2.1, l[i].2.2.1, l[i].2.2.2)) (fun y => isT y.1 l[i].1) (i : Int) (firstR l (i + 1) (l.drop (i + 1))) (by omega) (fun L2 => ?_) fun L2 j hj e ih2 => ?_
  ·dsimp only [impl_FirstBad.S2, impl_FirstBad.s2]
   refine tn (by omega) ?_
   rw [wrap_succ (by omega)]
   exact ih
  ·dsimp only [impl_FirstBad.S2, impl_FirstBad.s2]
   refine tp (by omega) (ti hj ?_)
   rw [getD_in hj, wrap_succ (by omega)]
   exact tbif (fun c => tl (by rw [show isT _ _ = true from c]; rfl)) fun c => by rw [show isT _ _ = false from c]; exact ih2
theorem impl_partsOf.sp {d : Nat} (hd : 1 ≤ d) {x : Df} {l : List By} (hl : l.length ≤ 1000000000000) (hin : ∀ p ∈ l, 0 ≤ p.1 ∧ p.1 < x.2.1.length) : impl_partsOf.f d (x.1, x.2.1, x.2.2.1, x.2.2.2, l) = some (l.map (mkPart x.2.1)) := by
 obtain ⟨d, rfl, _⟩ := dep hd
 rw [impl_partsOf.t_eq]
 dsimp only [impl_partsOf.m]
 refine Tells.eq (loopApp (α := Int × Bool) (β := Int × Int × Bool × Bool) (impl_partsOf.S0 d) l (mkPart x.2.1) (fun st i => (l, (l.length : Int), i, x.1, x.2.1, x.2.2.1, x.2.2.2, st)) _ (by omega) (fun L => ?_) fun L st i Q hi h ih => ?_)
 ·dsimp only [impl_partsOf.S0, impl_partsOf.s0]
  exact tn (by omega) (tl rfl)
 ·dsimp only [impl_partsOf.S0, impl_partsOf.s0]
  have q := hin _ (List.getElem_mem hi)
  refine tp (by omega) (ti hi ?_)
  rw [getD_in hi, wrap_succ (by omega)]
  exact tt (by rw [decide_eq_true q.1, decide_eq_true q.2]; rfl) (tp (by simp only [List.length_cons, List.length_nil]; omega) ih)
theorem spec_l11Part.sp {d : Nat} (hd : 1 ≤ d) {x : Df} {k : Int} {b : Bool} (h0 : 0 ≤ k) (h1 : k < x.2.1.length) : spec_l11Part.f d (x.1, x.2.1, x.2.2.1, x.2.2.2, k, b) = some (mkPart x.2.1 (k, b)) := by
 obtain ⟨d, rfl, _⟩ := dep hd
 rw [spec_l11Part.t_eq]
 dsimp only [spec_l11Part.m]
 exact Tells.eq (tt (by rw [decide_eq_true h0, decide_eq_true h1]; rfl) (tt (by rw [decide_eq_true h0, decide_eq_true h1]; rfl) (tl rfl)))
theorem spec_l11Parts.sp {d : Nat} (hd : 2 ≤ d) {x : Df} {l : List By} (hl : l.length ≤ 1000000000000) (hin : ∀ p ∈ l, 0 ≤ p.1 ∧ p.1 < x.2.1.length) : spec_l11Parts.f d (x.1, x.2.1, x.2.2.1, x.2.2.2, l) = some (l.map (mkPart x.2.1)) := by
 obtain ⟨d, rfl, _⟩ := dep hd
 rw [spec_l11Parts.t_eq]
 dsimp only [spec_l11Parts.m]
 refine Tells.eq (loopApp (α := Int × Bool) (β := Int × Int × Bool × Bool) (spec_l11Parts.S0 d) l (mkPart x.2.1) (fun st i => (l, i, x.1, x.2.1, x.2.2.1, x.2.2.2, st)) _ (by omega) (fun L => ?_) fun L st i Q hi h ih => ?_)
 ·dsimp only [spec_l11Parts.S0, spec_l11Parts.s0]
  exact tn (by omega) (tl rfl)
 ·dsimp only [spec_l11Parts.S0, spec_l11Parts.s0]
  have q := hin _ (List.getElem_mem hi)
  refine tp (by omega) (ti hi (ti hi ?_))
  rw [getD_in hi, wrap_succ (by omega)]
  exact tc (spec_l11Part.sp (by omega) q.1 q.2) (tp (by simp only [List.length_cons, List.length_nil]; omega) ih)
theorem impl_PrimaryPlan.sp {d : Nat} (hd : 6 ≤ d) {x : Df} (h : dfFit 140737488351232 x) : impl_PrimaryPlan.f d (x.1, x.2.1, x.2.2.1, x.2.2.2) = some (planP x) := by
 obtain ⟨d, rfl, _⟩ := dep hd
 rw [impl_PrimaryPlan.t_eq]
 dsimp only [impl_PrimaryPlan.m]
 unfold planP
 refine Tells.eq (tc (impl_CheckDef.sp (by omega) h) (tneq (fun c => tl (by rw [decide_eq_false c]; rfl)) fun c => ?_))
 rw [decide_eq_true c]
 have g := (checkM_iff.1 c).parts
 exact tc (impl_partsOf.sp (by omega) (by have := partsM_len g.1; omega) (partsM_in g.1)) (tl rfl)
theorem spec_PrimaryPlan.sp {d : Nat} (hd : 7 ≤ d) {x : Df} (h : dfFit 140737488351232 x) : spec_PrimaryPlan.f d (x.1, x.2.1, x.2.2.1, x.2.2.2) = some (planP x) := by
 obtain ⟨d, rfl, _⟩ := dep hd
 rw [spec_PrimaryPlan.t_eq]
 dsimp only [spec_PrimaryPlan.m]
 unfold planP
 refine Tells.eq (tc (spec_CheckDef.sp (by omega) h) (tneq (fun c => tl (by rw [decide_eq_false c]; rfl)) fun c => ?_))
 rw [decide_eq_true c]
 have g := (checkM_iff.1 c).parts
 exact tc (spec_l11Parts.sp (by omega) (by have := partsM_len g.1; omega) (partsM_in g.1)) (tl rfl)
theorem impl_IndexPlan.sp {d : Nat} (hd : 6 ≤ d) {x : Df} (h : dfFit 140737488351232 x) (i : Int) : impl_IndexPlan.f d (x.1, x.2.1, x.2.2.1, x.2.2.2, i) = some (planI x i) := by
 obtain ⟨d, rfl, _⟩ := dep hd
 rw [impl_IndexPlan.t_eq]
 dsimp only [impl_IndexPlan.m]
 unfold planI
 have h4 := h.2.2.2.1
 refine Tells.eq (tc (impl_CheckDef.sp (by omega) h) (tneq (fun c => tl (by rw [decide_eq_false c]; rfl)) fun c => ?_))
 rw [decide_eq_true c, wrap_id (by omega) (by omega)]
 have g := (checkM_iff.1 c).parts
 refine tc (impl_in.sp (by omega) _ _ _) ?_
 cases e : inB i 0 ((x.2.2.2.length : Int) - 1) with
 | false => exact tt rfl (tl rfl)
 | true =>
  have b := inB_iff.1 e
  refine tf rfl (tt (by rw [decide_eq_true b.1, decide_eq_true (show i < (x.2.2.2.length : Int) by omega)]; rfl) ?_)
  have m : ixAt x.2.2.2 i ∈ x.2.2.2 := at_mem b.1 (by omega)
  have gi := g.2 _ m
  refine tc (impl_partsOf.sp (l := (ixAt x.2.2.2 i).2.2) (by omega) (by have := partsM_len gi; omega) (partsM_in gi)) (tc (impl_partsOf.sp (by omega) (by have := partsM_len g.1; omega) (partsM_in g.1)) (tp ?_ (tl rfl)))
  have := partsM_len gi
  have := partsM_len g.1
  rw [List.length_map, List.length_map]; omega
theorem spec_IndexPlan.sp {d : Nat} (hd : 7 ≤ d) {x : Df} (h : dfFit 140737488351232 x) (i : Int) : spec_IndexPlan.f d (x.1, x.2.1, x.2.2.1, x.2.2.2, i) = some (planI x i) := by
 obtain ⟨d, rfl, _⟩ := dep hd
 rw [spec_IndexPlan.t_eq]
 dsimp only [spec_IndexPlan.m]
 unfold planI
 have h4 := h.2.2.2.1
 refine Tells.eq (tc (spec_CheckDef.sp (by omega) h) (tneq (fun c => tl (by rw [decide_eq_false c]; rfl)) fun c => ?_))
 rw [decide_eq_true c, wrap_id (by omega) (by omega)]
 have g := (checkM_iff.1 c).parts
 refine tc (spec_l1In.sp (by omega) _ _ _) ?_
 cases e : inB i 0 ((x.2.2.2.length : Int) - 1) with
 | false => exact tt rfl (tl rfl)
 | true =>
  have b := inB_iff.1 e
  refine tf rfl (tt (by rw [decide_eq_true b.1, decide_eq_true (show i < (x.2.2.2.length : Int) by omega)]; rfl) ?_)
  have m : ixAt x.2.2.2 i ∈ x.2.2.2 := at_mem b.1 (by omega)
  have gi := g.2 _ m
  refine tc (spec_l11Parts.sp (l := (ixAt x.2.2.2 i).2.2) (by omega) (by have := partsM_len gi; omega) (partsM_in gi)) (tc (spec_l11Parts.sp (by omega) (by have := partsM_len g.1; omega) (partsM_in g.1)) (tp ?_ (tl rfl)))
  have := partsM_len gi
  have := partsM_len g.1
  rw [List.length_map, List.length_map]; omega
theorem rowR_snoc : ∀ (r : List Col) (i : Nat) (c : Col), rowR i (r ++ [c]) = rowR i r ++ [(((i + r.length : Nat) : Int), c.2.1, c.2.2, false)]
 | [], i, c => rfl
 | x :: r, i, c => by rw [List.cons_append, rowR, rowR_snoc r (i + 1) c, rowR, List.cons_append, List.length_cons]; congr 5; omega
theorem impl_RowPlan.sp {d : Nat} (hd : 6 ≤ d) {x : Df} (h : dfFit 140737488351232 x) : impl_RowPlan.f d (x.1, x.2.1, x.2.2.1, x.2.2.2) = some (planR x) := by
 obtain ⟨d, rfl, _⟩ := dep hd
 rw [impl_RowPlan.t_eq]
 dsimp only [impl_RowPlan.m]
 unfold planR
 refine Tells.eq (tc (impl_CheckDef.sp (by omega) h) (tneq (fun c => tl (by rw [decide_eq_false c]; rfl)) fun c => ?_))
 rw [decide_eq_true c]
 have c6 := (checkM_iff.1 c).types.2.2
 refine loop0 (σ := List (Int × Int × Bool × Bool)) (impl_RowPlan.S0 d) x.2.1.length (fun st i => (x.2.1, (x.2.1.length : Int), i, st)) (fun st i => st = rowR 0 (x.2.1.take i)) (fun _ _ r => r = rowR 0 x.2.1) [] (by omega) rfl ?_ ?_
 ·rintro L st rfl
  dsimp only [impl_RowPlan.S0, impl_RowPlan.s0]
  exact tn (by omega) (tl (by rw [List.take_length]))
 ·rintro L st i rfl hi ih
  dsimp only [impl_RowPlan.S0, impl_RowPlan.s0]
  refine tp (by omega) (ti hi ?_)
  rw [getD_in hi, wrap_succ (by omega)]
  refine tp (by rw [rowR_len]; simp only [List.length_cons, List.length_nil, List.length_take]; omega) (ih _ ?_)
  rw [take_succ' hi, rowR_snoc, List.length_take, Nat.zero_add, show min i x.2.1.length = i by omega]
theorem spec_RowPlan.sp {d : Nat} (hd : 7 ≤ d) {x : Df} (h : dfFit 140737488351232 x) : spec_RowPlan.f d (x.1, x.2.1, x.2.2.1, x.2.2.2) = some (planR x) := by
 obtain ⟨d, rfl, _⟩ := dep hd
 rw [spec_RowPlan.t_eq]
 dsimp only [spec_RowPlan.m]
 unfold planR
 have h1 := h.2.1.1
 have cd := spec_CheckDef.sp (d := d) (by omega) h
 refine Tells.eq ?_
 by_cases c : checkM x = 0
 ·rw [decide_eq_true c]
  have c6 := (checkM_iff.1 c).types.2.2
  refine loop0 (σ := List (Int × Int × Bool × Bool)) (spec_RowPlan.S0 d) x.2.1.length (fun st i => (i, x.1, x.2.1, x.2.2.1, x.2.2.2, st)) (fun st i => st = rowR 0 (x.2.1.take i)) (fun _ _ r => r = rowR 0 x.2.1) [] (by omega) rfl ?_ ?_
  ·rintro L st rfl
   dsimp only [spec_RowPlan.S0, spec_RowPlan.s0]
   exact tn (by omega) (tl (by rw [List.take_length]))
  ·rintro L st i rfl hi ih
   dsimp only [spec_RowPlan.S0, spec_RowPlan.s0]
   refine tp (by omega) (tc cd (teq (fun _ => ?_) fun n => absurd c n))
   refine tc (spec_l11Part.sp (by omega) (by omega) (by omega)) ?_
   rw [wrap_succ (by omega)]
   refine tp (by rw [rowR_len]; simp only [List.length_cons, List.length_nil, List.length_take]; omega) (ih _ ?_)
   rw [take_succ' hi, rowR_snoc, List.length_take, Nat.zero_add, show min i x.2.1.length = i by omega]
   unfold mkPart colAt
   rw [getD_in hi]
 ·rw [decide_eq_false c]
  obtain ⟨R, hR⟩ : ∃ R, rnds = R + 1 := ⟨rnds - 1, by have := rnds_gt (n := 0) (by decide); omega⟩
  rw [hR]
  simp only [iter]
  dsimp only [spec_RowPlan.S0, spec_RowPlan.s0]
  exact tif (fun _ => tc cd (teq (fun n => absurd n c) fun _ => tl rfl)) fun _ => tl rfl
theorem planP_len (x : Df) : (planP x).length ≤ 10 := by
 unfold planP
 by_cases c : checkM x = 0
 ·rw [decide_eq_true c, cond_true, List.length_map]
  have := partsM_len (checkM_iff.1 c).parts.1; omega
 ·rw [decide_eq_false c]; exact Nat.zero_le _
theorem planI_len (x : Df) (i : Int) : (planI x i).length ≤ 10 := by
 unfold planI
 by_cases c : checkM x = 0
 ·rw [decide_eq_true c, cond_true]
  cases e : inB i 0 ((x.2.2.2.length : Int) - 1) with
  | false => exact Nat.zero_le _
  | true =>
   have b := inB_iff.1 e
   have g := (checkM_iff.1 c).parts
   have m : ixAt x.2.2.2 i ∈ x.2.2.2 := at_mem b.1 (by omega)
   have := partsM_len g.1
   have := partsM_len (g.2 _ m)
   rw [cond_true, List.length_append, List.length_map, List.length_map]
   omega
 ·rw [decide_eq_false c]; exact Nat.zero_le _
theorem planR_len (x : Df) : (planR x).length ≤ 10 := by
 unfold planR
 by_cases c : checkM x = 0
 ·rw [decide_eq_true c, cond_true, rowR_len]
  have := (checkM_iff.1 c).types.2.2; omega
 ·rw [decide_eq_false c]; exact Nat.zero_le _
def tabD (n : Nat) (x : Df) : Prop := x.1.size ≤ 100 ∧ (x.2.1.length ≤ n ∧ ∀ c ∈ x.2.1, c.1.size ≤ 100) ∧ x.2.2.1.length ≤ n ∧ (x.2.2.2.length ≤ n ∧ ∀ y ∈ x.2.2.2, y.1.size ≤ 100 ∧ y.2.2.length ≤ n)
theorem tabD.fit {n : Nat} (hn : n ≤ 1000) {x : Df} (h : tabD n x) : dfFit 1048576 x := by
 obtain ⟨h0, ⟨h1, h2⟩, h3, h4, h5⟩ := h
 exact ⟨by omega, ⟨by omega, fun c hc => by have := h2 c hc; omega⟩, by omega, by omega, fun y hy => by have := h5 y hy; omega⟩
theorem tabD.big {n : Nat} (hn : n ≤ 1000) {x : Df} (h : tabD n x) : dfFit 140737488351232 x := (h.fit hn).mono (by decide)
theorem mem_snoc {β : Type} {l : List β} {y : β} {Q : β → Prop} (h : ∀ x ∈ l, Q x) (hy : Q y) : ∀ x ∈ l ++ [y], Q x := by
 intro x hx
 rcases List.mem_append.1 hx with hx | hx
 ·exact h x hx
 ·rw [List.mem_singleton] at hx; rw [hx]; exact hy
theorem spec_l1Str.sp {d : Nat} (hd : 3 ≤ d) {b : List Int} {p x : Int} {l : List ByteArray} (hc : cur b p) (h0 : 0 < l.length) : Tells (spec_l1Str.f d (b, p, x, l)) fun r => r.1 ∈ l ∧ cur b r.2.1 := by
 obtain ⟨d, rfl, _⟩ := dep hd
 rw [spec_l1Str.t_eq]
 dsimp only [spec_l1Str.m]
 refine tb (spec_l1Below.sp (by omega) hc) fun r hr => ?_
 have hlt := hr.2.1 (by omega)
 refine tt (by rw [decide_eq_true hr.1, decide_eq_true hlt]; rfl) (tl ⟨at_mem hr.1 hlt, hr.2.2⟩)
theorem spec_l9Draw2.sp {d : Nat} (hd : 4 ≤ d) {b : List Int} {p x n : Int} (hc : cur b p) (h1 : 1 ≤ n) (h2 : n ≤ 1000) : Tells (spec_l9Draw2.f d (b, p, x, n)) fun r => partsM n r.1 = true ∧ cur b r.2.1 := by
 obtain ⟨d, rfl, _⟩ := dep hd
 rw [spec_l9Draw2.t_eq]
 dsimp only [spec_l9Draw2.m]
 refine tb (spec_l1Below.sp (by omega) hc) fun r1 h1 => tb (spec_l1Once.sp (by omega) h1.2.2) fun r2 h2 => ?_
 have a0 := h1.1
 have a1 := h1.2.1 (by omega)
 have one : ∀ c, partsM n [(r1.1, c)] = true := fun c => inB_iff.2 ⟨a0, by omega⟩
 refine tif (fun c => tb (spec_l1Once.sp (by omega) h2) fun r3 h3 => tbif (fun _ => tp (by omega) (tb (spec_l1Once.sp (by omega) h3) fun r4 h4 => tp (by simp) (tl ⟨?_, h4⟩))) fun _ => tl ⟨one _, h3⟩) fun _ => tl ⟨one _, h2⟩
 show partsM n [(r1.1, r2.1), (Int.tmod (IntKind.wrap IntKind.i64 (r1.1 + 1)) n, r4.1)] = true
 rw [wrap_id (by omega) (by omega), Int.tmod_eq_emod_of_nonneg (by omega)]
 have m0 := Int.emod_nonneg (r1.1 + 1) (show n ≠ 0 by omega)
 have m1 := Int.emod_lt_of_pos (r1.1 + 1) (show 0 < n by omega)
 have ne : r1.1 ≠ (r1.1 + 1) % n := by
  by_cases e : r1.1 + 1 = n
  ·rw [e, Int.emod_self]; omega
  ·rw [Int.emod_eq_of_lt (by omega) (by omega)]; omega
 simp only [partsM, Bool.and_eq_true]
 exact ⟨inB_iff.2 ⟨a0, by omega⟩, inB_iff.2 ⟨m0, by omega⟩, by rw [decide_eq_false ne]; rfl⟩
def nmL : List ByteArray := [(⟨#[97]⟩ : ByteArray), (⟨#[98]⟩ : ByteArray), (⟨#[99]⟩ : ByteArray)]
def nmC : List ByteArray := [(⟨#[105, 100]⟩ : ByteArray), (⟨#[97]⟩ : ByteArray), (⟨#[98]⟩ : ByteArray), (⟨#[99]⟩ : ByteArray)]
def uvL : List ByteArray := [(⟨#[117]⟩ : ByteArray), (⟨#[118]⟩ : ByteArray)]
def colsD (k : Nat) (cs : List Col) : Prop := cs.map (·.1) = nmC.take k ∧ (∀ c ∈ cs, inB c.2.1 1 4 = true) ∧ (colAt cs 0).2.2 = false
def primD (cs : List Col) (ps : List By) : Prop := ps.any (nullAt cs) = false ∧ partsM cs.length ps = true
def idxD (cs : List Col) (xs : List Ix) : Prop := (xs.map (·.1) = [] ∨ (∃ u ∈ uvL, xs.map (·.1) = [u ++ (⟨#[98]⟩ : ByteArray)]) ∨ ∃ u ∈ uvL, ∃ v ∈ uvL, xs.map (·.1) = [u ++ (⟨#[99]⟩ : ByteArray), v ++ (⟨#[98]⟩ : ByteArray)]) ∧ ∀ x ∈ xs, partsM cs.length x.2.2 = true
def drawn (name : ByteArray) (x : Df) : Prop := x.1 = name ∧ (∃ k, 2 ≤ k ∧ k ≤ 4 ∧ colsD k x.2.1) ∧ primD x.2.1 x.2.2.1 ∧ idxD x.2.1 x.2.2.2
theorem colsD_len {k : Nat} {cs : List Col} (h : colsD k cs) (hk : k ≤ 4) : cs.length = k := by
 have := congrArg List.length h.1
 rw [List.length_map, List.length_take] at this
 have e : nmC.length = 4 := rfl
 omega
theorem spec_l9Draw.two {d : Nat} (hd : 4 ≤ d) {b : List Int} {ci h : Int} (hc : cur b ci) (e : ByteArray) (z1 : List Col) (z2 : List By) (z3 : List Ix) {name : ByteArray} {cs : List Col} {k : Nat} (h2 : 2 ≤ k) (h4 : k ≤ 4) (hcs : colsD k cs) {ps : List By} (hp : primD cs ps) {n : Int} (n0 : 0 ≤ n) (n2 : n ≤ 2) :
  Tells (iter (spec_l9Draw.S2 d) rnds (n, b, ci, h, e, z1, z2, z3, name, cs, ps, ([] : List Ix), nmL)) fun r => drawn name (r.1, r.2.1, r.2.2.1, r.2.2.2.1) ∧ cur b r.2.2.2.2.1 := by
 have cl := colsD_len hcs h4
 have stop : ∀ L ci h xs, cur b ci → idxD cs xs → Tells (spec_l9Draw.S2 d L ((0 : Int), b, ci, h, e, z1, z2, z3, name, cs, ps, xs, nmL)) fun r => drawn name (r.1, r.2.1, r.2.2.1, r.2.2.2.1) ∧ cur b r.2.2.2.2.1 := fun L ci h xs hc hx => by
  dsimp only [spec_l9Draw.S2, spec_l9Draw.s2]
  exact tn (by omega) (tl ⟨⟨rfl, ⟨k, h2, h4, hcs⟩, hp, hx⟩, hc⟩)
 have go : ∀ (i : Int) (w : ByteArray) L ci h xs Q, (0 < i ∧ i < 3) → List.getD nmL (Int.toNat i) ByteArray.empty = w → w.size = 1 → xs.length ≤ 2 → cur b ci → (∀ u t ys ci' h', u ∈ uvL → partsM cs.length ys = true → cur b ci' → Tells (L (i - 1, b, ci', h', e, z1, z2, z3, name, cs, ps, xs ++ [(u ++ w, t, ys)], nmL)) Q) → Tells (spec_l9Draw.S2 d L (i, b, ci, h, e, z1, z2, z3, name, cs, ps, xs, nmL)) Q := fun i w L ci h xs Q hi hw w1 hx hc ih => by
  dsimp only [spec_l9Draw.S2, spec_l9Draw.s2]
  refine tp (by omega) (tb (spec_l1Str.sp (l := uvL) (by omega) hc (by decide)) fun r hr => tt ?_ ?_)
  ·have l3 : (nmL.length : Int) = 3 := rfl
   rw [decide_eq_true (show (0 : Int) ≤ i by omega), decide_eq_true (show i < (nmL.length : Int) by omega)]; rfl
  rw [hw]
  have us : r.1.size = 1 := by
   have := hr.1
   simp only [uvL, List.mem_cons, List.not_mem_nil, or_false] at this
   rcases this with e | e <;> rw [e] <;> rfl
  refine tp ?_ (tb (spec_l1Once.sp (by omega) hr.2) fun r2 g2 => tb (spec_l9Draw2.sp (by omega) g2 (by omega) (by omega)) fun r3 g3 => tp ?_ ?_)
  ·rw [us, w1]; decide
  ·simp only [List.length_cons, List.length_nil]; omega
  ·rw [wrap_id (by omega) (by omega)]
   exact ih _ _ _ _ _ hr.1 g3.1 g3.2
 obtain ⟨R, hR⟩ : ∃ R, rnds = R + 1 + 1 + 1 := ⟨rnds - 3, by have := rnds_gt (n := 5) (by decide); omega⟩
 rw [hR]
 have : n = 0 ∨ n = 1 ∨ n = 2 := by omega
 rcases this with rfl | rfl | rfl
 ·simp only [iter]
  exact stop _ _ _ _ hc ⟨.inl rfl, fun x hx => by cases hx⟩
 ·simp only [iter]
  refine go 1 (⟨#[98]⟩ : ByteArray) _ _ _ _ _ (by omega) rfl rfl (by simp) hc fun u t ys ci' h' hu hy hc' => ?_
  exact stop _ _ _ _ hc' ⟨.inr (.inl ⟨u, hu, rfl⟩), by simpa using hy⟩
 ·simp only [iter]
  refine go 2 (⟨#[99]⟩ : ByteArray) _ _ _ _ _ (by omega) rfl rfl (by simp) hc fun u t ys ci' h' hu hy hc' => ?_
  refine go 1 (⟨#[98]⟩ : ByteArray) _ _ _ _ _ (by omega) rfl rfl (by simp) hc' fun v t2 ys2 ci2 h2 hv hy2 hc2 => ?_
  exact stop _ _ _ _ hc2 ⟨.inr (.inr ⟨u, hu, v, hv, rfl⟩), by simpa using ⟨hy, hy2⟩⟩
theorem colAt_snoc0 {cs : List Col} {c : Col} (h : 0 < cs.length) : colAt (cs ++ [c]) 0 = colAt cs 0 := by
 unfold colAt
 cases cs with
 | nil => simp at h
 | cons x r => rfl
theorem spec_l9Draw.sp {d : Nat} (hd : 5 ≤ d) {b : List Int} {ci h : Int} (hc : cur b ci) (name : ByteArray) : Tells (spec_l9Draw.f d (b, ci, h, name)) fun r => drawn name (r.1, r.2.1, r.2.2.1, r.2.2.2.1) ∧ cur b r.2.2.2.2.1 := by
 obtain ⟨d, rfl, _⟩ := dep hd
 rw [spec_l9Draw.t_eq]
 dsimp only [spec_l9Draw.m]
 refine tb (spec_l1Int.sp (by omega) hc (by simp)) fun r hr => ?_
 have key : ∀ (R i : Nat) (ci h : Int) (cs : List Col), i ≤ 3 → 3 - i < R → cur b ci → colsD (i + 1) cs → Tells (iter (spec_l9Draw.S0 d) R ((i : Int), b, ci, h, ByteArray.empty, ([] : List Col), ([] : List By), ([] : List Ix), name, cs, ([] : List By), ([] : List Ix), nmL)) fun r => drawn name (r.1, r.2.1, r.2.2.1, r.2.2.2.1) ∧ cur b r.2.2.2.2.1 := by
  intro R
  induction R with
  | zero => intro i ci h cs h1 h2; omega
  | succ R ih =>
   intro i ci h cs hi hR hc hcs
   have cl := colsD_len hcs (by omega)
   have l3 : nmL.length = 3 := rfl
   simp only [iter]
   dsimp only [spec_l9Draw.S0, spec_l9Draw.s0]
   refine tb (spec_l1Below.sp (by omega) hc) fun r2 g2 => ?_
   have a0 := g2.1
   have a1 := g2.2.1 (by omega)
   rw [wrap_id (x := 1 + r2.1) (by omega) (by omega)]
   refine tif (fun c => tp (by omega) (ti (by omega) ?_)) fun c => ?_
   ·refine tb (spec_l1Below.sp (by omega) g2.2.2) fun r3 g3 => tb (spec_l1Once.sp (by omega) g3.2.2) fun r4 g4 => ?_
    have b0 := g3.1
    have b1 := g3.2.1 (by omega)
    rw [getD_in (show i < nmL.length by omega), wrap_succ (by omega), wrap_id (x := 1 + r3.1) (by omega) (by omega)]
    refine tp (by simp only [List.length_cons, List.length_nil]; omega) (ih (i + 1) _ _ _ (by omega) (by omega) g4 ⟨?_, mem_snoc hcs.2.1 (inB_iff.2 ⟨by simp only; omega, by simp only; omega⟩), ?_⟩)
    ·rw [List.map_append, hcs.1]
     have : i = 0 ∨ i = 1 ∨ i = 2 := by omega
     rcases this with e | e | e <;> subst e <;> rfl
    ·rw [colAt_snoc0 (by omega)]; exact hcs.2.2
   ·refine tb (spec_l1Once.sp (by omega) g2.2.2) fun r5 g5 => tt ?_ ?_
    ·rw [decide_eq_true (show (1 : Int) < (cs.length : Int) by omega)]; rfl
    have c0 : (colAt cs 0).2.2 = false := hcs.2.2
    have p0 : ∀ q, primD cs [((0 : Int), q)] := fun q => ⟨by simp [nullAt, c0], inB_iff.2 ⟨by simp only; omega, by simp only; omega⟩⟩
    refine tbif (fun e => tb (spec_l1Once.sp (by omega) g5) fun r6 g6 => tbif (fun _ => tb (spec_l1Once.sp (by omega) g6) fun r7 g7 => tp (by simp) (tb (spec_l1Below.sp (by omega) g7) fun r8 g8 => ?_)) fun _ => tb (spec_l1Below.sp (by omega) g6) fun r8 g8 => ?_) fun e => tb (spec_l1Below.sp (by omega) g5) fun r8 g8 => ?_
    ·have c1 : (colAt cs 1).2.2 = false := by
      have e : (!(colAt cs 1).2.2) = true := e
      simpa using e
     refine spec_l9Draw.two (k := i + 1) (by omega) g8.2.2 _ _ _ _ (by omega) (by omega) hcs ⟨?_, ?_⟩ g8.1 (by have := g8.2.1 (by omega); omega)
     ·simp [nullAt, c0, c1]
     ·simp only [List.cons_append, List.nil_append, partsM, Bool.and_eq_true]
      exact ⟨inB_iff.2 ⟨by omega, by omega⟩, inB_iff.2 ⟨by omega, by omega⟩, by simp⟩
    ·exact spec_l9Draw.two (k := i + 1) (by omega) g8.2.2 _ _ _ _ (by omega) (by omega) hcs (p0 _) g8.1 (by have := g8.2.1 (by omega); omega)
    ·exact spec_l9Draw.two (k := i + 1) (by omega) g8.2.2 _ _ _ _ (by omega) (by omega) hcs (p0 _) g8.1 (by have := g8.2.1 (by omega); omega)
 refine key rnds 0 _ _ _ (by omega) (rnds_gt (by decide)) hr.2 ⟨rfl, ?_, rfl⟩
 intro c hc
 rw [List.mem_singleton] at hc
 rw [hc]
 have := hr.1
 simp only [List.mem_cons, List.not_mem_nil, or_false] at this
 exact inB_iff.2 ⟨by simp only; omega, by simp only; omega⟩
theorem nmC_free : ∀ s ∈ nmC, freeM s = true := by decide +kernel
theorem nmC_once : ∀ k, k ≤ 4 → onceR [] (nmC.take k) = true := fun k hk => by
 have : k = 0 ∨ k = 1 ∨ k = 2 ∨ k = 3 ∨ k = 4 := by omega
 rcases this with e | e | e | e | e <;> subst e <;> decide +kernel
theorem idx_names {cs : List Col} {xs : List Ix} (h : idxD cs xs) : (∀ x ∈ xs, freeM x.1 = true) ∧ onceR [] (xs.map (·.1)) = true ∧ xs.length ≤ 2 ∧ ∀ x ∈ xs, x.1.size ≤ 100 := by
 have f1 : ∀ u ∈ uvL, freeM (u ++ (⟨#[98]⟩ : ByteArray)) = true ∧ (u ++ (⟨#[98]⟩ : ByteArray)).size ≤ 100 := by decide +kernel
 have f2 : ∀ u ∈ uvL, freeM (u ++ (⟨#[99]⟩ : ByteArray)) = true ∧ (u ++ (⟨#[99]⟩ : ByteArray)).size ≤ 100 := by decide +kernel
 have o1 : ∀ u ∈ uvL, onceR [] [u ++ (⟨#[98]⟩ : ByteArray)] = true := by decide +kernel
 have o2 : ∀ u ∈ uvL, ∀ v ∈ uvL, onceR [] [u ++ (⟨#[99]⟩ : ByteArray), v ++ (⟨#[98]⟩ : ByteArray)] = true := by decide +kernel
 have mm : ∀ {P : ByteArray → Prop} {l : List ByteArray}, xs.map (·.1) = l → (∀ s ∈ l, P s) → ∀ x ∈ xs, P x.1 := fun e hp x hx => hp _ (e ▸ List.mem_map_of_mem (f := fun y : Ix => y.1) hx)
 have ll : ∀ {l : List ByteArray}, xs.map (·.1) = l → xs.length = l.length := fun e => by rw [← e, List.length_map]
 rcases h.1 with e | ⟨u, hu, e⟩ | ⟨u, hu, v, hv, e⟩
 ·have := ll e
  exact ⟨mm (P := fun s => freeM s = true) e (fun s hs => by cases hs), by rw [e]; rfl, by rw [this]; decide, mm (P := fun s => s.size ≤ 100) e (fun s hs => by cases hs)⟩
 ·have := ll e
  have one : ∀ {P : ByteArray → Prop}, P (u ++ (⟨#[98]⟩ : ByteArray)) → ∀ s ∈ [u ++ (⟨#[98]⟩ : ByteArray)], P s := fun h s hs => by rw [List.mem_singleton] at hs; rw [hs]; exact h
  exact ⟨mm (P := fun s => freeM s = true) e (one (P := fun s => freeM s = true) (f1 u hu).1), by rw [e]; exact o1 u hu, by rw [this]; simp, mm (P := fun s => s.size ≤ 100) e (one (P := fun s => s.size ≤ 100) (f1 u hu).2)⟩
 ·have := ll e
  have two : ∀ {P : ByteArray → Prop}, P (u ++ (⟨#[99]⟩ : ByteArray)) → P (v ++ (⟨#[98]⟩ : ByteArray)) → ∀ s ∈ [u ++ (⟨#[99]⟩ : ByteArray), v ++ (⟨#[98]⟩ : ByteArray)], P s := fun h h2 s hs => by
   rcases List.mem_cons.1 hs with e | hs
   ·rw [e]; exact h
   ·rw [List.mem_singleton.1 hs]; exact h2
  exact ⟨mm (P := fun s => freeM s = true) e (two (P := fun s => freeM s = true) (f2 u hu).1 (f1 v hv).1), by rw [e]; exact o2 u hu v hv, by rw [this]; simp, mm (P := fun s => s.size ≤ 100) e (two (P := fun s => s.size ≤ 100) (f2 u hu).2 (f1 v hv).2)⟩
theorem drawn.names {name : ByteArray} {x : Df} (h : drawn name x) : ∀ c ∈ x.2.1, c.1 ∈ nmC := by
 obtain ⟨_, ⟨k, _, _, hk, _⟩, _⟩ := h
 intro c hc
 have := List.mem_map_of_mem (f := fun y : Col => y.1) hc
 rw [hk] at this
 exact List.mem_of_mem_take this
theorem drawn.good {name : ByteArray} {x : Df} (h : drawn name x) (hf : freeM name = true) : goodM x := by
 have hn := h.names
 obtain ⟨e, ⟨k, k2, k4, hc⟩, hp, hx⟩ := h
 have cl := colsD_len hc k4
 have ix := idx_names hx
 refine ⟨?_, ?_, ?_, ix.2.2.1, ?_, hp.1⟩
 ·unfold namesM
  simp only [Bool.and_eq_true]
  exact ⟨List.all_eq_true.2 fun c hc => nmC_free _ (hn c hc), List.all_eq_true.2 ix.1, by rw [e]; exact hf⟩
 ·unfold typesM
  rw [Bool.and_eq_true]
  exact ⟨List.all_eq_true.2 hc.2.1, inB_iff.2 ⟨by omega, by omega⟩⟩
 ·unfold onceM
  rw [Bool.and_eq_true]
  exact ⟨by rw [hc.1]; exact nmC_once k k4, ix.2.1⟩
 ·unfold allPartsM
  rw [Bool.and_eq_true]
  exact ⟨List.all_eq_true.2 hx.2, hp.2⟩
theorem drawn.tab {name : ByteArray} {x : Df} (h : drawn name x) (hs : name.size ≤ 100) : tabD 5 x := by
 have hn := h.names
 obtain ⟨e, ⟨k, k2, k4, hc⟩, hp, hx⟩ := h
 have cl := colsD_len hc k4
 have ix := idx_names hx
 have ns : ∀ s ∈ nmC, s.size ≤ 100 := by decide
 have := partsM_len hp.2
 exact ⟨by rw [e]; exact hs, ⟨by omega, fun c hc => ns _ (hn c hc)⟩, by omega, by omega, fun y hy => ⟨ix.2.2.2 y hy, by have := partsM_len (hx.2 y hy); omega⟩⟩
theorem impl_PartOk.sp {d : Nat} (hd : 2 ≤ d) (p : Pt) : impl_PartOk.f d (p.1, p.2.1, p.2.2.1, p.2.2.2) = some (partOkM p.1 p.2.1) := by
 obtain ⟨d, rfl, _⟩ := dep hd
 rw [impl_PartOk.t_eq]
 dsimp only [impl_PartOk.m]
 unfold partOkM
 refine Tells.eq (tc (impl_in.sp (by omega) _ _ _) (tbif (fun c => ?_) fun c => ?_))
 ·rw [if_pos c]; exact tc (impl_in.sp (by omega) _ _ _) (tl rfl)
 ·rw [if_neg (by rw [c]; simp)]; exact tl rfl
def planOkM (l : List Pt) : Bool := l.all (fun p => partOkM p.1 p.2.1) && decide (l.length ≤ 6)
theorem impl_PlanOk.sp {d : Nat} (hd : 3 ≤ d) {l : List Pt} (hl : l.length ≤ 140737488351232) : impl_PlanOk.f d l = some (planOkM l) := by
 obtain ⟨d, rfl, _⟩ := dep hd
 rw [impl_PlanOk.t_eq]
 dsimp only [impl_PlanOk.m]
 suffices g : Tells (iter (impl_PlanOk.S0 d) rnds (l, (l.length : Int), (0 : Int))) (· = (l.all (fun p => partOkM p.1 p.2.1) && decide (l.length ≤ 6))) from g.eq
 have g := loopL (impl_PlanOk.S0 d) l (fun i => (l, (l.length : Int), i)) (fun i (r : List Pt) => r.all (fun p => partOkM p.1 p.2.1) && decide (l.length ≤ 6 ∨ r.length = 0 )) (by omega) (fun L => ?_) fun L i hi ih => ?_
 ·refine g.mono fun r hr => ?_
  rw [hr]
  by_cases c : l.length ≤ 6
  ·simp [c]
  ·have : ¬ l.length = 0 := by omega
   simp [c, this]
 ·dsimp only [impl_PlanOk.S0, impl_PlanOk.s0]
  exact tn (by omega) (tl (by simp))
 ·dsimp only [impl_PlanOk.S0, impl_PlanOk.s0]
  refine tp (by omega) (ti hi ?_)
  rw [getD_in hi, wrap_succ (by omega), List.all_cons, List.length_cons]
  refine tif (fun c => tl ?_) fun c => tc (impl_PartOk.sp (by omega) _) ?_
  ·rw [decide_eq_false (show ¬ (l.length ≤ 6 ∨ (l.drop (i + 1)).length + 1 = 0) by omega), Bool.and_false]
  cases partOkM l[i].1 l[i].2.1
  ·exact tt rfl (tl (by simp))
  ·refine tf rfl (ih.mono fun r hr => ?_)
   rw [hr, Bool.true_and]
   congr 1
   rw [List.length_drop]
   by_cases c6 : l.length ≤ 6
   ·simp [c6]
   ·rw [decide_eq_false (show ¬ (l.length ≤ 6 ∨ l.length - (i + 1) = 0) by omega), decide_eq_false (show ¬ (l.length ≤ 6 ∨ l.length - (i + 1) + 1 = 0) by omega)]
theorem mk_ok {x : Df} (g : goodM x) {ps : List By} (h : partsM x.2.1.length ps = true) : ∀ p ∈ ps.map (mkPart x.2.1), partOkM p.1 p.2.1 = true := by
 intro p hp
 obtain ⟨y, hy, rfl⟩ := List.mem_map.1 hp
 have q := partsM_in h y hy
 have t := g.types
 show partOkM y.1 (colAt x.2.1 y.1).2.1 = true
 unfold partOkM
 rw [if_pos (inB_iff.2 ⟨q.1, by omega⟩)]
 exact t.1 _ (at_mem q.1 q.2)
theorem rowR_ok : ∀ (r : List Col) (i : Nat), (∀ c ∈ r, inB c.2.1 1 4 = true) → i + r.length ≤ 10 → ∀ p ∈ rowR i r, partOkM p.1 p.2.1 = true
 | [], _, _, _, p, hp => by cases hp
 | c :: r, i, h, hl, p, hp => by
  rw [List.length_cons] at hl
  rw [rowR] at hp
  rcases List.mem_cons.1 hp with e | hp
  ·rw [e]
   show partOkM (i : Int) c.2.1 = true
   unfold partOkM
   rw [if_pos (inB_iff.2 ⟨by omega, by omega⟩)]
   exact h c List.mem_cons_self
  ·exact rowR_ok r (i + 1) (fun x hx => h x (List.mem_cons_of_mem _ hx)) (by omega) p hp
theorem planOkM_of {l : List Pt} (h : ∀ p ∈ l, partOkM p.1 p.2.1 = true) (hl : l.length ≤ 6) : planOkM l = true := by
 unfold planOkM
 rw [List.all_eq_true.2 h, decide_eq_true hl]; rfl
theorem plan_ok {x : Df} (g : goodM x) : planOkM (planP x) = true ∧ planOkM (planR x) = true ∧ ∀ i, planOkM (planI x i) = true := by
 have c := checkM_iff.2 g
 have p := g.parts
 have pl := partsM_len p.1
 have t := g.types
 refine ⟨?_, ?_, fun i => ?_⟩
 ·unfold planP
  rw [decide_eq_true c, cond_true]
  exact planOkM_of (mk_ok g p.1) (by rw [List.length_map]; omega)
 ·unfold planR
  rw [decide_eq_true c, cond_true]
  exact planOkM_of (rowR_ok _ 0 t.1 (by omega)) (by rw [rowR_len]; omega)
 ·unfold planI
  rw [decide_eq_true c, cond_true]
  cases e : inB i 0 ((x.2.2.2.length : Int) - 1) with
  | false => rfl
  | true =>
   have b := inB_iff.1 e
   have m : ixAt x.2.2.2 i ∈ x.2.2.2 := at_mem b.1 (by omega)
   have gl := partsM_len (p.2 _ m)
   rw [cond_true]
   refine planOkM_of (fun q hq => ?_) (by rw [List.length_append, List.length_map, List.length_map]; omega)
   rcases List.mem_append.1 hq with h | h
   ·exact mk_ok g (p.2 _ m) q h
   ·exact mk_ok g p.1 q h
theorem goodM.cols {x : Df} (g : goodM x) : namesS x.2.1 ∧ (∀ c ∈ x.2.1, c.1.size ≤ 8 ∧ 1 ≤ c.2.1 ∧ c.2.1 ≤ 4) ∧ x.1.size ≤ 8 ∧ ∀ y ∈ x.2.2.2, y.1.size ≤ 8 := by
 obtain ⟨n1, n2, n3⟩ := g.names
 have t := g.types
 have hn : namesS x.2.1 := fun c hc => (freeM_size (n2 c hc)).2
 exact ⟨hn, fun c hc => ⟨hn c hc, inB_iff.1 (t.1 c hc)⟩, (freeM_size n1).2, fun y hy => (freeM_size (n3 y hy)).2⟩
abbrev Tok := Int × ByteArray
def wTable : ByteArray := ⟨#[116, 97, 98, 108, 101]⟩
def wPrimary : ByteArray := ⟨#[112, 114, 105, 109, 97, 114, 121]⟩
def wUnique : ByteArray := ⟨#[117, 110, 105, 113, 117, 101]⟩
def wIndex : ByteArray := ⟨#[105, 110, 100, 101, 120]⟩
def wNull : ByteArray := ⟨#[110, 117, 108, 108]⟩
def wDesc : ByteArray := ⟨#[100, 101, 115, 99]⟩
def mOpen : ByteArray := ⟨#[123]⟩
def mClose : ByteArray := ⟨#[125]⟩
def mComma : ByteArray := ⟨#[44]⟩
def mSemi : ByteArray := ⟨#[59]⟩
def colToks (c : Col) : List Tok := (1, c.1) :: (1, tyAt c.2.1) :: ((bif c.2.2 then [(1, wNull)] else []) ++ [(2, mSemi)])
def partToks (cs : List Col) (p : By) : List Tok := (1, (colAt cs p.1).1) :: (bif p.2 then [(1, wDesc)] else [])
def partsToks (cs : List Col) : List By → List Tok
 | [] => []
 | [p] => partToks cs p ++ [(2, mSemi)]
 | p :: q :: r => partToks cs p ++ (2, mComma) :: partsToks cs (q :: r)
def idxToks (cs : List Col) (x : Ix) : List Tok := (1, bif x.2.1 then wUnique else wIndex) :: (1, x.1) :: partsToks cs x.2.2
def defToks (x : Df) : List Tok := (1, wTable) :: (1, x.1) :: (2, mOpen) :: (x.2.1.flatMap colToks ++ (1, wPrimary) :: (partsToks x.2.1 x.2.2.1 ++ (x.2.2.2.flatMap (idxToks x.2.1) ++ [(2, mClose)])))
def allToks (l : List Df) : List Tok := l.flatMap defToks
def tokOk (t : Tok) : Bool := tokM t.1 (bytesOf t.2)
def toksOk (r : List Tok) : Prop := ∀ t ∈ r, tokOk t = true
theorem toksOk.hd {t : Tok} {r : List Tok} (h : toksOk (t :: r)) : tokOk t = true := h t List.mem_cons_self
def runM : List Int → Nat
 | [] => 0
 | c :: r => if inB c 97 122 = true ∨ inB c 48 57 = true then runM r + 1 else 0
def blankM (c : Int) : Bool := c == 32 || (c == 9 || (c == 10 || c == 13))
def lexB : Nat → List Int → Nat → List Tok → List Tok × Int
 | 0, w, i, t => if w = [] then (t, -1) else ([], (i : Int))
 | _ + 1, [], _, t => (t, -1)
 | n + 1, c :: w, i, t => if blankM c = true then lexB n w (i + 1) t else
   if inB c 97 122 = true then (if tokM 1 (c :: w.take (runM w)) = true then (if t.length = 500 then ([], (i : Int)) else lexB n (w.drop (runM w)) (i + 1 + runM w) (t ++ [(1, numsStr (c :: w.take (runM w)))])) else ([], (i : Int)))
   else (if tokM 2 [c] = true then (if t.length = 500 then ([], (i : Int)) else lexB n w (i + 1) (t ++ [(2, numsStr [c])])) else ([], (i : Int)))
theorem lexB_nil (n i : Nat) (t : List Tok) : lexB n [] i t = (t, -1) := by cases n <;> simp [lexB]
def Lx (w : List Int) (ts : List Tok) : Prop := ∀ n i t, w.length ≤ n → t.length + ts.length ≤ 500 → lexB n w i t = (t ++ ts, -1)
theorem Lx.nil : Lx [] [] := fun n i t _ _ => by rw [lexB_nil, List.append_nil]
theorem Lx.blank {c : Int} {w : List Int} {ts : List Tok} (hc : blankM c = true) (h : Lx w ts) : Lx (c :: w) ts := fun n i t hn ht => by
 obtain ⟨n, rfl⟩ : ∃ m, n = m + 1 := ⟨n - 1, by simp only [List.length_cons] at hn; omega⟩
 rw [lexB, if_pos hc]
 exact h n _ t (by simp only [List.length_cons] at hn; omega) ht
theorem Lx.mark {c : Int} {w : List Int} {ts : List Tok} (hc : blankM c = false) (hl : inB c 97 122 = false) (hm : markM [c] = true) (h : Lx w ts) : Lx (c :: w) ((2, numsStr [c]) :: ts) := fun n i t hn ht => by
 obtain ⟨n, rfl⟩ : ∃ m, n = m + 1 := ⟨n - 1, by simp only [List.length_cons] at hn; omega⟩
 simp only [List.length_cons] at ht hn
 have e : tokM 2 [c] = true := by unfold tokM; rw [if_neg (by decide), if_pos rfl]; exact hm
 rw [lexB, if_neg (by rw [hc]; simp), if_neg (by rw [hl]; simp), if_pos e, if_neg (by omega)]
 rw [h n _ _ (by omega) (by simp only [List.length_append, List.length_cons, List.length_nil]; omega)]
 simp
def endsN (w : List Int) : Prop := w = [] ∨ ∃ c r, w = c :: r ∧ inB c 97 122 = false ∧ inB c 48 57 = false
theorem runM_app : ∀ (a r : List Int), (∀ c ∈ a, inB c 97 122 = true ∨ inB c 48 57 = true) → endsN r → runM (a ++ r) = a.length
 | [], r, _, hr => by
  rcases hr with rfl | ⟨c, r, rfl, h1, h2⟩
  ·rfl
  ·simp [runM, h1, h2]
 | c :: a, r, h, hr => by
  have ih := runM_app a r (fun x hx => h x (List.mem_cons_of_mem _ hx)) hr
  rw [List.cons_append, runM, ih, if_pos (h c List.mem_cons_self), List.length_cons]
theorem nameM_rest (n : Int) : ∀ (a : List Int) (i : Nat), 0 < i → nameM n i a = true → ∀ c ∈ a, inB c 97 122 = true ∨ inB c 48 57 = true
 | [], i, _, h => by simp
 | c :: a, i, hi, h => by
  rw [nameM] at h
  split at h
  ·rename_i h1
   have := nameM_rest n a (i + 1) (by omega) h
   exact fun x hx => by rcases List.mem_cons.1 hx with rfl | hx; exact Or.inl h1; exact this x hx
  ·split at h
   ·omega
   ·split at h
    ·rename_i h1
     have := nameM_rest n a (i + 1) (by omega) h
     exact fun x hx => by rcases List.mem_cons.1 hx with rfl | hx; exact Or.inr h1; exact this x hx
    ·cases h
theorem Lx.name {b w : List Int} {ts : List Tok} (hb : nameM b.length 0 b = true) (he : endsN w) (h : Lx w ts) : Lx (b ++ w) ((1, numsStr b) :: ts) := fun n i t hn ht => by
 match b, hb with
 | [], hb => simp [nameM, inB] at hb
 | c :: a, hb =>
  obtain ⟨n, rfl⟩ : ∃ m, n = m + 1 := ⟨n - 1, by simp only [List.cons_append, List.length_cons] at hn; omega⟩
  simp only [List.length_cons, List.cons_append, List.length_append] at ht hn
  have hl : inB c 97 122 = true ∧ nameM ((c :: a).length : Nat) 1 a = true := by
   rw [nameM] at hb
   split at hb
   ·rename_i h1; exact ⟨h1, hb⟩
   ·rw [if_pos rfl] at hb; cases hb
  have hrest := nameM_rest _ a 1 (by omega) hl.2
  have nb : ¬ blankM c = true := by
   have := inB_iff.1 hl.1
   unfold blankM
   simp; omega
  have ok : tokM 1 (c :: a) = true := by unfold tokM; rw [if_pos rfl]; exact hb
  rw [List.cons_append, lexB, if_neg nb, if_pos hl.1, runM_app a w hrest he, List.take_left, List.drop_left, if_pos ok, if_neg (by omega)]
  rw [h n _ _ (by omega) (by simp only [List.length_append, List.length_cons, List.length_nil]; omega)]
  simp
theorem bytes_app (a b : ByteArray) : bytesOf (a ++ b) = bytesOf a ++ bytesOf b := by
 simp [strNums, ByteArray.data_append]
theorem blank_sp : blankM 32 = true := by decide
theorem ends_sp (w : List Int) : endsN (32 :: w) := .inr ⟨32, w, rfl, by decide, by decide⟩
theorem ends_comma (w : List Int) : endsN (44 :: w) := .inr ⟨44, w, rfl, by decide, by decide⟩
theorem ends_semi (w : List Int) : endsN (59 :: w) := .inr ⟨59, w, rfl, by decide, by decide⟩
theorem Lx.name' {s : ByteArray} {w : List Int} {ts : List Tok} (hb : nameM s.size 0 (bytesOf s) = true) (he : endsN w) (h : Lx w ts) : Lx (bytesOf s ++ w) ((1, s) :: ts) := by
 have := Lx.name (b := bytesOf s) (by rw [bytesOf_length]; exact hb) he h
 rwa [show numsStr (bytesOf s) = s from strOf_bytesOf s] at this
theorem Lx.semi {w : List Int} {ts : List Tok} (h : Lx w ts) : Lx (59 :: 32 :: w) ((2, mSemi) :: ts) := Lx.mark (c := 59) (by decide) (by decide) (by decide) (h.blank blank_sp)
theorem free_name {s : ByteArray} (h : freeM s = true) : nameM s.size 0 (bytesOf s) = true := by
 unfold freeM at h; rw [Bool.and_eq_true] at h; exact h.1
theorem tyAt_name : ∀ t : Int, inB t 1 4 = true → nameM (tyAt t).size 0 (bytesOf (tyAt t)) = true := by
 intro t h
 have := inB_iff.1 h
 have : t = 1 ∨ t = 2 ∨ t = 3 ∨ t = 4 := by omega
 rcases this with e | e | e | e <;> subst e <;> decide +kernel
def colBy (c : Col) : List Int := bytesOf c.1 ++ 32 :: (bytesOf (tyAt c.2.1) ++ ((bif c.2.2 then 32 :: bytesOf wNull else []) ++ [59, 32]))
theorem colS_bytes (s : ByteArray) (c : Col) : bytesOf (colS s c) = bytesOf s ++ colBy c := by
 have e1 : bytesOf (⟨#[32]⟩ : ByteArray) = [32] := by decide +kernel
 have e2 : bytesOf (⟨#[32, 110, 117, 108, 108]⟩ : ByteArray) = 32 :: bytesOf wNull := by decide +kernel
 have e3 : bytesOf (⟨#[59, 32]⟩ : ByteArray) = [59, 32] := by decide +kernel
 unfold colS colBy
 cases c.2.2 <;> simp only [cond_true, cond_false, bytes_app, e1, e2, e3] <;> simp
theorem foldl_bytes {β : Type} (f : ByteArray → β → ByteArray) (g : β → List Int) (h : ∀ s x, bytesOf (f s x) = bytesOf s ++ g x) : ∀ (l : List β) (s : ByteArray), bytesOf (l.foldl f s) = bytesOf s ++ l.flatMap g
 | [], s => by simp
 | x :: r, s => by rw [List.foldl_cons, foldl_bytes f g h r, h, List.flatMap_cons, List.append_assoc]
theorem null_name : nameM wNull.size 0 (bytesOf wNull) = true ∧ nameM wDesc.size 0 (bytesOf wDesc) = true ∧ nameM wTable.size 0 (bytesOf wTable) = true ∧ nameM wPrimary.size 0 (bytesOf wPrimary) = true ∧ nameM wUnique.size 0 (bytesOf wUnique) = true ∧ nameM wIndex.size 0 (bytesOf wIndex) = true := by decide +kernel
theorem Lx.col {c : Col} {w : List Int} {ts : List Tok} (hf : freeM c.1 = true) (ht : inB c.2.1 1 4 = true) (h : Lx w ts) : Lx (colBy c ++ w) (colToks c ++ ts) := by
 unfold colBy colToks
 simp only [List.append_assoc, List.cons_append, List.nil_append]
 refine Lx.name' (free_name hf) (ends_sp _) (Lx.blank blank_sp ?_)
 cases c.2.2 with
 | true =>
  simp only [cond_true, List.cons_append, List.nil_append]
  exact Lx.name' (tyAt_name _ ht) (ends_sp _) (Lx.blank blank_sp (Lx.name' null_name.1 (ends_semi _) h.semi))
 | false =>
  simp only [cond_false, List.nil_append]
  exact Lx.name' (tyAt_name _ ht) (ends_semi _) h.semi
theorem Lx.cols {w : List Int} {ts : List Tok} (h : Lx w ts) : ∀ (cs : List Col), (∀ c ∈ cs, freeM c.1 = true ∧ inB c.2.1 1 4 = true) → Lx (cs.flatMap colBy ++ w) (cs.flatMap colToks ++ ts)
 | [], _ => h
 | c :: cs, hc => by
  rw [List.flatMap_cons, List.flatMap_cons, List.append_assoc, List.append_assoc]
  exact Lx.col (hc c List.mem_cons_self).1 (hc c List.mem_cons_self).2 (Lx.cols h cs fun x hx => hc x (List.mem_cons_of_mem _ hx))
theorem Lx.parts {cs : List Col} (hn : ∀ c ∈ cs, freeM c.1 = true) {w : List Int} {ts : List Tok} (h : Lx w ts) {ps : List By} (hp : partsM cs.length ps = true) : Lx (bytesOf (partTx cs ps) ++ w) (partsToks cs ps ++ ts) := by
 have pin := partsM_in hp
 have ll := partsM_len hp
 have e1 : bytesOf (⟨#[32, 100, 101, 115, 99]⟩ : ByteArray) = 32 :: bytesOf wDesc := by decide +kernel
 have e2 : bytesOf (⟨#[44, 32]⟩ : ByteArray) = [44, 32] := by decide +kernel
 have e3 : bytesOf (⟨#[59, 32]⟩ : ByteArray) = [59, 32] := by decide +kernel
 have one : ∀ p ∈ ps, ∀ {c : Int} {w : List Int} {ts : List Tok}, endsN (c :: w) → Lx (c :: w) ts → Lx (bytesOf (partOne cs p) ++ c :: w) (partToks cs p ++ ts) := fun p hp c w ts he h => by
  have nm := free_name (hn _ (at_mem (z := (ByteArray.empty, (0 : Int), false)) (pin p hp).1 (pin p hp).2))
  unfold partOne partToks
  cases p.2 with
  | true =>
   simp only [cond_true, bytes_app, e1, List.append_assoc, List.cons_append, List.nil_append]
   exact Lx.name' nm (ends_sp _) (Lx.blank blank_sp (Lx.name' null_name.2.1 he h))
  | false =>
   simp only [cond_false, List.cons_append, List.nil_append]
   exact Lx.name' nm he h
 match ps, one, ll with
 | [p], one, _ =>
  unfold partTx
  rw [bytes_app, e3, partsToks, List.append_assoc, List.append_assoc]
  exact one p List.mem_cons_self (ends_semi _) h.semi
 | [p, q], one, _ =>
  unfold partTx
  rw [bytes_app, bytes_app, bytes_app, e2, e3, partsToks, partsToks]
  simp only [List.append_assoc, List.cons_append, List.nil_append]
  exact one p List.mem_cons_self (ends_comma _) (Lx.mark (c := 44) (by decide) (by decide) (by decide) (Lx.blank blank_sp (one q (List.mem_cons_of_mem _ List.mem_cons_self) (ends_semi _) h.semi)))
 | [], _, l => exact absurd l.1 (by simp)
 | _ :: _ :: _ :: _, _, l => exact absurd l.2 (by simp only [List.length_cons]; omega)
def idxBy (cs : List Col) (x : Ix) : List Int := bytesOf (bif x.2.1 then wUnique else wIndex) ++ 32 :: (bytesOf x.1 ++ 32 :: bytesOf (partTx cs x.2.2))
theorem idxS_bytes (cs : List Col) (s : ByteArray) (x : Ix) : bytesOf (idxS cs s x) = bytesOf s ++ idxBy cs x := by
 have e1 : bytesOf (⟨#[32]⟩ : ByteArray) = [32] := by decide +kernel
 have e2 : bytesOf (⟨#[117, 110, 105, 113, 117, 101, 32]⟩ : ByteArray) = bytesOf wUnique ++ [32] := by decide +kernel
 have e3 : bytesOf (⟨#[105, 110, 100, 101, 120, 32]⟩ : ByteArray) = bytesOf wIndex ++ [32] := by decide +kernel
 unfold idxS idxBy
 cases x.2.1 <;> simp only [cond_true, cond_false, bytes_app, e1, e2, e3] <;> simp
theorem Lx.idxs {cs : List Col} (hn : ∀ c ∈ cs, freeM c.1 = true) {w : List Int} {ts : List Tok} (h : Lx w ts) : ∀ (xs : List Ix), (∀ x ∈ xs, freeM x.1 = true ∧ partsM cs.length x.2.2 = true) → Lx (xs.flatMap (idxBy cs) ++ w) (xs.flatMap (idxToks cs) ++ ts)
 | [], _ => h
 | x :: xs, hx => by
  rw [List.flatMap_cons, List.flatMap_cons, List.append_assoc, List.append_assoc]
  have ih := Lx.idxs hn h xs fun y hy => hx y (List.mem_cons_of_mem _ hy)
  have q := hx x List.mem_cons_self
  unfold idxBy idxToks
  simp only [List.append_assoc, List.cons_append]
  have un : nameM (bif x.2.1 then wUnique else wIndex).size 0 (bytesOf (bif x.2.1 then wUnique else wIndex)) = true := by
   cases x.2.1
   ·exact null_name.2.2.2.2.2
   ·exact null_name.2.2.2.2.1
  exact Lx.name' un (ends_sp _) (Lx.blank blank_sp (Lx.name' (free_name q.1) (ends_sp _) (Lx.blank blank_sp (Lx.parts hn ih q.2))))
theorem Lx.table {x : Df} (g : goodM x) {w : List Int} {ts : List Tok} (h : Lx w ts) : Lx (bytesOf (defTx x) ++ w) (defToks x ++ ts) := by
 have n := g.names
 have t := g.types
 obtain ⟨p1, p2⟩ := g.parts
 have e1 : bytesOf (⟨#[116, 97, 98, 108, 101, 32]⟩ : ByteArray) = bytesOf wTable ++ [32] := by decide +kernel
 have e2 : bytesOf (⟨#[32, 123, 32]⟩ : ByteArray) = [32, 123, 32] := by decide +kernel
 have e3 : bytesOf (⟨#[112, 114, 105, 109, 97, 114, 121, 32]⟩ : ByteArray) = bytesOf wPrimary ++ [32] := by decide +kernel
 have e4 : bytesOf (⟨#[125]⟩ : ByteArray) = [125] := by decide +kernel
 have e : defTx x = restTx x (x.2.1.foldl colS (headTx x)) := by unfold defTx; rw [decide_eq_true (checkM_iff.2 g)]; rfl
 rw [e]
 unfold restTx headTx defToks
 rw [bytes_app, foldl_bytes _ _ (idxS_bytes x.2.1), bytes_app, bytes_app, foldl_bytes _ _ colS_bytes, bytes_app, bytes_app, e1, e2, e3, e4]
 simp only [List.append_assoc, List.cons_append, List.nil_append]
 refine Lx.name' null_name.2.2.1 (ends_sp _) (Lx.blank blank_sp (Lx.name' (free_name n.1) (ends_sp _) (Lx.blank blank_sp (Lx.mark (c := 123) (by decide) (by decide) (by decide) (Lx.blank blank_sp ?_)))))
 refine Lx.cols (Lx.name' null_name.2.2.2.1 (ends_sp _) (Lx.blank blank_sp (Lx.parts n.2.1 (Lx.idxs n.2.1 (Lx.mark (c := 125) (by decide) (by decide) (by decide) h) _ fun y hy => ⟨n.2.2 y hy, p2 y hy⟩) p1))) _ fun c hc => ⟨n.2.1 c hc, t.1 c hc⟩
theorem Lx.all : ∀ (l : List Df), (∀ x ∈ l, goodM x) → Lx (bytesOf (defsTx l)) (allToks l) := by
 intro l h
 have e : bytesOf (defsTx l) = l.flatMap fun x => bytesOf (defTx x) ++ [10] := by
  unfold defsTx
  rw [foldl_bytes defsS (fun x => bytesOf (defTx x) ++ [10])]
  ·have : bytesOf (⟨#[]⟩ : ByteArray) = [] := by decide +kernel
   rw [this, List.nil_append]
  ·intro s x
   have e10 : bytesOf (⟨#[10]⟩ : ByteArray) = [10] := by decide +kernel
   unfold defsS
   rw [bytes_app, bytes_app, e10]
 rw [e]
 clear e
 induction l with
 | nil => exact Lx.nil
 | cons x l ih =>
  rw [List.flatMap_cons, List.append_assoc]
  have ihl := ih fun y hy => h y (List.mem_cons_of_mem _ hy)
  have := Lx.table (h x List.mem_cons_self) (Lx.blank (c := 10) (by decide) ihl)
  simpa [allToks] using this
def nmT : ByteArray := ⟨#[116]⟩
def nmU : ByteArray := ⟨#[117]⟩
def drawnL (l : List Df) : Prop := ∃ x, drawn nmT x ∧ (l = [x] ∨ ∃ y, drawn nmU y ∧ l = [x, y])
theorem spec_l10Draw.sp {d : Nat} (hd : 6 ≤ d) {b : List Int} {ci h : Int} (hc : cur b ci) : Tells (spec_l10Draw.f d (b, ci, h)) fun r => drawnL r.1 ∧ cur b r.2.1 := by
 obtain ⟨d, rfl, _⟩ := dep hd
 rw [spec_l10Draw.t_eq]
 dsimp only [spec_l10Draw.m]
 refine tb (spec_l9Draw.sp (by omega) hc nmT) fun r1 g1 => tb (spec_l1Once.sp (by omega) g1.2) fun r2 g2 => tbif (fun _ => ?_) fun _ => tl ⟨⟨_, g1.1, .inl rfl⟩, g2⟩
 exact tb (spec_l9Draw.sp (by omega) g2 nmU) fun r3 g3 => tp (by simp) (tl ⟨⟨_, g1.1, .inr ⟨_, g3.1, rfl⟩⟩, g3.2⟩)
theorem drawnL.tab {l : List Df} (h : drawnL l) : 1 ≤ l.length ∧ l.length ≤ 2 ∧ ∀ x ∈ l, tabD 7 x := by
 have up : ∀ {x : Df}, tabD 5 x → tabD 7 x := fun {x} t => by
  obtain ⟨a, ⟨b, c⟩, e, f, g⟩ := t
  exact ⟨a, ⟨by omega, c⟩, by omega, by omega, fun y hy => by have := g y hy; omega⟩
 obtain ⟨x, hx, rfl | ⟨y, hy, rfl⟩⟩ := h
 ·exact ⟨by simp, by simp, fun z hz => by rw [List.mem_singleton.1 hz]; exact up (hx.tab (by decide))⟩
 ·refine ⟨by simp, by simp, fun z hz => ?_⟩
  rcases List.mem_cons.1 hz with e | hz
  ·rw [e]; exact up (hx.tab (by decide))
  ·rw [List.mem_singleton.1 hz]; exact up (hy.tab (by decide))
theorem goodM.fit {x : Df} (g : goodM x) : dfFit 1000 x := by
 obtain ⟨hn, hc, h1, hx⟩ := g.cols
 have t := g.types
 obtain ⟨p1, p2⟩ := g.parts
 have l := partsM_len p1
 have x2 := g.2.2.2.1
 exact ⟨by omega, ⟨by omega, fun c hc => by have := hn c hc; omega⟩, by omega, by omega, fun y hy => by have := hx y hy; have := partsM_len (p2 y hy); omega⟩
theorem goodM.w {x : Df} (g : goodM x) : wD x ≤ 1000 := by
 have t := g.types
 obtain ⟨p1, p2⟩ := g.parts
 have l := partsM_len p1
 have x2 := g.2.2.2.1
 unfold wD
 rw [sum_const, sum_const]
 have : ∀ xs : List Ix, (∀ y ∈ xs, y.2.2.length ≤ 2) → wSum wI xs ≤ 6 * xs.length := fun xs => by
  induction xs with
  | nil => intro _; simp [wSum]
  | cons y r ih =>
   intro h
   have := ih fun z hz => h z (List.mem_cons_of_mem _ hz)
   have := h y List.mem_cons_self
   rw [wSum_cons, List.length_cons]
   unfold wI at *
   omega
 have := this x.2.2.2 fun y hy => (partsM_len (p2 y hy)).2
 omega
def defAt (s : List Df) (t : Int) : Df := List.getD s (Int.toNat t) (ByteArray.empty, [], [], [])
def thereM (s : List Df) (t i : Int) : Bool := decide (firstM s = -1) && (inB t 0 ((s.length : Int) - 1) && inB i (-1) (((defAt s t).2.2.2.length : Int) - 1))
theorem there_iff {s : List Df} {t i : Int} : thereM s t i = true ↔ firstM s = -1 ∧ (0 ≤ t ∧ t < s.length) ∧ (-1 ≤ i ∧ i < (defAt s t).2.2.2.length) := by
 unfold thereM
 rw [Bool.and_eq_true, Bool.and_eq_true, decide_eq_true_eq, inB_iff, inB_iff]
 omega
theorem defAt_mem {s : List Df} {t : Int} (h0 : 0 ≤ t) (h1 : t < s.length) : defAt s t ∈ s := at_mem h0 h1
theorem tand {a b : Int} {α : Type} {x y : Option α} {Q : α → Prop} (h0 : 0 ≤ a) (h1 : a < b) (k : Tells x Q) : Tells (bif decide (0 ≤ a) && decide (a < b) then x else y) Q :=
 tt (by rw [decide_eq_true h0, decide_eq_true h1]; rfl) k
theorem impl_hasIndex.sp {d : Nat} (hd : 7 ≤ d) {s : List Df} (hl : s.length ≤ 140737488351232) (hx : ∀ x ∈ s, dfFit 140737488351232 x) (t i : Int) : impl_hasIndex.f d (s, t, i) = some (thereM s t i) := by
 obtain ⟨d, rfl, _⟩ := dep hd
 rw [impl_hasIndex.t_eq]
 dsimp only [impl_hasIndex.m]
 refine Tells.eq (tc (impl_FirstBad.sp (by omega) hl hx) (teq (fun e => ?_) fun e => ?_))
 ·rw [wrap_id (by omega) (by omega)]
  refine tc (impl_in.sp (by omega) _ _ _) (tbif (fun c => ?_) fun c => tl ?_)
  ·have q := inB_iff.1 c
   have m := hx _ (defAt_mem (s := s) (t := t) (by omega) (by omega))
   refine tand (by omega) (by omega) ?_
   have w : IntKind.wrap IntKind.i64 (((defAt s t).2.2.2.length : Int) - 1) = ((defAt s t).2.2.2.length : Int) - 1 := wrap_id (by omega) (by have := m.2.2.2.1; omega)
   have r := impl_in.sp (d := d) (by omega) i (-1) (((defAt s t).2.2.2.length : Int) - 1)
   rw [← w] at r
   refine tc r (tl ?_)
   rw [w]; unfold thereM; rw [decide_eq_true e, c]; rfl
  ·unfold thereM; rw [c]; simp
 ·refine tl ?_
  unfold thereM; rw [decide_eq_false e]; rfl
theorem spec_l11There.sp {d : Nat} (hd : 8 ≤ d) {s : List Df} (hl : s.length ≤ 140737488351232) (hx : ∀ x ∈ s, dfFit 140737488351232 x) (t i : Int) : spec_l11There.f d (s, t, i) = some (thereM s t i) := by
 obtain ⟨d, rfl, _⟩ := dep hd
 rw [spec_l11There.t_eq]
 dsimp only [spec_l11There.m]
 refine Tells.eq (tc (spec_FirstBad.sp (by omega) hl hx) (teq (fun e => ?_) fun e => ?_))
 ·rw [wrap_id (by omega) (by omega)]
  refine tc (spec_l1In.sp (by omega) _ _ _) (tbif (fun c => ?_) fun c => tl ?_)
  ·have q := inB_iff.1 c
   have m := hx _ (defAt_mem (s := s) (t := t) (by omega) (by omega))
   refine tand (by omega) (by omega) ?_
   have w : IntKind.wrap IntKind.i64 (((defAt s t).2.2.2.length : Int) - 1) = ((defAt s t).2.2.2.length : Int) - 1 := wrap_id (by omega) (by have := m.2.2.2.1; omega)
   have r := spec_l1In.sp (d := d) (by omega) i (-1) (((defAt s t).2.2.2.length : Int) - 1)
   rw [← w] at r
   refine tc r (tl ?_)
   rw [w]; unfold thereM; rw [decide_eq_true e, c]; rfl
  ·unfold thereM; rw [c]; simp
 ·refine tl ?_
  unfold thereM; rw [decide_eq_false e]; rfl
def headM (s : List Df) (t i : Int) : List Int := bif thereM s t i then [IntKind.wrap .u8 (IntKind.wrap .i64 (t + 1)), IntKind.wrap .u8 (IntKind.wrap .i64 (i + 1))] else []
theorem headM_len (s : List Df) (t i : Int) : (headM s t i).length ≤ 2 := by
 unfold headM; cases thereM s t i <;> simp
theorem impl_HeadOf.sp {d : Nat} (hd : 8 ≤ d) {s : List Df} (hl : s.length ≤ 140737488351232) (hx : ∀ x ∈ s, dfFit 140737488351232 x) (t i : Int) : impl_HeadOf.f d (s, t, i) = some (headM s t i) := by
 obtain ⟨d, rfl, _⟩ := dep hd
 rw [impl_HeadOf.t_eq]
 dsimp only [impl_HeadOf.m]
 refine Tells.eq (tc (impl_hasIndex.sp (by omega) hl hx t i) ?_)
 unfold headM
 cases thereM s t i
 ·exact tt rfl (tl rfl)
 ·exact tf rfl (tl rfl)
theorem spec_HeadOf.sp {d : Nat} (hd : 9 ≤ d) {s : List Df} (hl : s.length ≤ 140737488351232) (hx : ∀ x ∈ s, dfFit 140737488351232 x) (t i : Int) : spec_HeadOf.f d (s, t, i) = some (headM s t i) := by
 obtain ⟨d, rfl, _⟩ := dep hd
 rw [spec_HeadOf.t_eq]
 dsimp only [spec_HeadOf.m]
 refine Tells.eq (tc (spec_l11There.sp (by omega) hl hx t i) ?_)
 unfold headM
 cases thereM s t i
 ·exact tt rfl (tl rfl)
 ·exact tf rfl (tl rfl)
open Go Go.Proofs
theorem fdiv8 (x : Int) : Int.fdiv x (2 ^ (min (Int.toNat (8 : Int)) (IntKind.bits IntKind.i64))) = x / 256 := by
 rw [Int.fdiv_eq_ediv_of_nonneg _ (by decide)]; rfl
theorem impl_bytesOf.loop {d : Nat} : ∀ (j k : Nat) (x : Int) (n : Nat), j < k → x < 256 ^ j → n + j ≤ 100 → Tells (iter (impl_bytesOf.S0 d) k (x, (n : Int))) (· = ((n + (beM j x).length : Nat) : Int)) := by
 intro j
 induction j with
 | zero =>
  intro k x n hk hx _
  obtain ⟨k, rfl⟩ : ∃ k', k = k' + 1 := ⟨k - 1, by omega⟩
  rw [iter]
  dsimp only [impl_bytesOf.S0, impl_bytesOf.s0]
  rw [Int.pow_zero] at hx
  exact tn (by omega) (tl rfl)
 | succ j ih =>
  intro k x n hk hx hs
  obtain ⟨k, rfl⟩ : ∃ k', k = k' + 1 := ⟨k - 1, by omega⟩
  rw [iter]
  dsimp only [impl_bytesOf.S0, impl_bytesOf.s0]
  rw [beM, fdiv8, wrap_succ (by omega)]
  refine tif (fun h => tp (by decide) ?_) fun h => tl (by rw [if_neg h]; rfl)
  rw [if_pos h]
  refine (ih k (x / 256) (n + 1) (by omega) ?_ (by omega)).mono fun r hr => by rw [hr, List.length_append, List.length_singleton]; omega
  rw [Int.pow_succ] at hx
  exact Int.ediv_lt_of_lt_mul (by omega) hx
theorem impl_bytesOf.sp {d : Nat} (hd : 1 ≤ d) {x : Int} (hx : x < 256 ^ 7) : impl_bytesOf.f d x = some ((beM 7 x).length : Int) := by
 obtain ⟨d, rfl, _⟩ := dep hd
 rw [impl_bytesOf.t_eq]
 dsimp only [impl_bytesOf.m]
 have := (impl_bytesOf.loop (d := d) 7 rnds x 0 (rnds_gt (by decide)) hx (by decide)).eq
 rw [Nat.zero_add] at this
 exact this
theorem impl_addBytes.loop {d : Nat} (x c : Int) (f : Int → Int) (hf : ∀ b, 0 ≤ b → b ≤ 255 → Go.bits .xor .u8 b c = f b) : ∀ (n k : Nat) (s : List Int), n < k → n ≤ 7 → s.length + n < 140737488355328 →
  Tells (iter (impl_addBytes.S0 d) k (x, c, (n : Int) - 1, s)) (· = s ++ (digM x n).map f) := by
 intro n
 induction n with
 | zero =>
  intro k s hk _ _
  obtain ⟨k, rfl⟩ : ∃ k', k = k' + 1 := ⟨k - 1, by omega⟩
  rw [iter]
  dsimp only [impl_addBytes.S0, impl_addBytes.s0]
  exact tn (by omega) (tl (by simp [digM]))
 | succ n ih =>
  intro k s hk hn hs
  obtain ⟨k, rfl⟩ : ∃ k', k = k' + 1 := ⟨k - 1, by omega⟩
  rw [iter]
  dsimp only [impl_addBytes.S0, impl_addBytes.s0]
  have e : ((n + 1 : Nat) : Int) - 1 = (n : Int) := by omega
  have w : IntKind.wrap IntKind.i64 ((8 : Int) * (n : Int)) = (8 : Int) * (n : Int) := wrap_id (by omega) (by omega)
  have sh : Int.fdiv x (2 ^ (min (Int.toNat ((8 : Int) * (n : Int))) (IntKind.bits IntKind.i64))) = x / 256 ^ n := shr_at x n (by omega)
  have xo : IntKind.wrap IntKind.u8 ((BitVec.ofInt (IntKind.bits IntKind.u8) (x / 256 ^ n % 256) ^^^ BitVec.ofInt (IntKind.bits IntKind.u8) c).toNat : Int) = f (x / 256 ^ n % 256) := hf _ (by omega) (by omega)
  rw [e, w, sh, IntKind.wrap_u8 (x / 256 ^ n), xo, wrap_id (x := (n : Int) - 1) (by omega) (by omega)]
  refine tp (by omega) (tp (by omega) (tp (by simp only [List.length_singleton]; omega) ?_))
  refine (ih k (s ++ [f (x / 256 ^ n % 256)]) (by omega) (by omega) ?_).mono fun r hr => ?_
  ·rw [List.length_append, List.length_singleton]; omega
  ·rw [hr]; simp [digM]
theorem impl_addBytes.sp {d : Nat} (hd : 1 ≤ d) (x c : Int) (f : Int → Int) (hf : ∀ b, 0 ≤ b → b ≤ 255 → Go.bits .xor .u8 b c = f b) {n : Nat} {l : List Int} (hn : n ≤ 7) (hs : l.length + n < 140737488355328) : impl_addBytes.f d (l, x, (n : Int), c) = some (l ++ (digM x n).map f) := by
 obtain ⟨d, rfl, _⟩ := dep hd
 rw [impl_addBytes.t_eq]
 dsimp only [impl_addBytes.m]
 rw [wrap_id (by omega) (by omega)]
 exact (impl_addBytes.loop x c f hf n rnds l (rnds_gt (by omega)) hn hs).eq
theorem clampV_mx (n : Int) : (bif decide ((bif decide ((1000000000000000 : Int) < n) then (1000000000000000 : Int) else n) > (-1000000000000000 : Int)) then (bif decide ((1000000000000000 : Int) < n) then (1000000000000000 : Int) else n) else (-1000000000000000 : Int)) = clampV n := by
 unfold clampV
 by_cases a : (1000000000000000 : Int) < n
 ·rw [decide_eq_true a, if_pos a]; rfl
 ·rw [decide_eq_false a, if_neg a, cond_false]
  by_cases b : n > (-1000000000000000 : Int)
  ·rw [decide_eq_true b, cond_true, if_neg (by omega)]
  ·rw [decide_eq_false b, cond_false]; split <;> omega
theorem clampF_mx (n : Int) : (bif decide ((bif decide ((2147483647 : Int) < n) then (2147483647 : Int) else n) > (-2147483648 : Int)) then (bif decide ((2147483647 : Int) < n) then (2147483647 : Int) else n) else (-2147483648 : Int)) = clampF n := by
 unfold clampF
 by_cases a : (2147483647 : Int) < n
 ·rw [decide_eq_true a, if_pos a]; rfl
 ·rw [decide_eq_false a, if_neg a, cond_false]
  by_cases b : n > (-2147483648 : Int)
  ·rw [decide_eq_true b, cond_true, if_neg (by omega)]
  ·rw [decide_eq_false b, cond_false]; split <;> omega
theorem clampF_bd (n : Int) : -2147483648 ≤ clampF n ∧ clampF n ≤ 2147483647 := by unfold clampF; split <;> (try split) <;> omega
theorem impl_clamp.var {d : Nat} (hd : 1 ≤ d) (n : Int) : impl_clamp.f d (n, (-1000000000000000 : Int), (1000000000000000 : Int)) = some (clampV n) := by
 obtain ⟨d, rfl, _⟩ := dep hd
 rw [impl_clamp.t_eq]
 dsimp only [impl_clamp.m]
 rw [clampV_mx]
theorem impl_clamp.fix {d : Nat} (hd : 1 ≤ d) (n : Int) : impl_clamp.f d (n, (-2147483648 : Int), (2147483647 : Int)) = some (clampF n) := by
 obtain ⟨d, rfl, _⟩ := dep hd
 rw [impl_clamp.t_eq]
 dsimp only [impl_clamp.m]
 rw [clampF_mx]
theorem impl_addVar.sp {d : Nat} (hd : 2 ≤ d) {l : List Int} {n : Int} (hs : l.length ≤ 100000000000) : impl_addVar.f d (l, n) = some (l ++ varM n) := by
 obtain ⟨d, rfl, _⟩ := dep hd
 rw [impl_addVar.t_eq]
 dsimp only [impl_addVar.m]
 have hb := clampV_bd n
 have n1 := beM_len 7 (clampV n)
 have n2 := beM_len 7 (-1 - clampV n)
 unfold varM
 refine Tells.eq (tc (impl_clamp.var (by omega) n) (tif (fun h => ?_) fun h => ?_))
 ·rw [if_pos h]
  refine tc (impl_bytesOf.sp (by omega) (by omega)) (tp (by simp only [List.length_singleton]; omega) ?_)
  rw [wrap_id (by omega) (by omega), u8_id (by omega) (by omega)]
  refine tc (impl_addBytes.sp (by omega) (clampV n) 0 (fun b => b) flip_0 n1 (by simp only [List.length_append, List.length_singleton]; omega)) (tl ?_)
  rw [← beM_dig]
  simp
 ·rw [if_neg h, wrap_id (x := (-1 : Int) - clampV n) (by omega) (by omega)]
  refine tc (impl_bytesOf.sp (by omega) (by omega)) (tp (by simp only [List.length_singleton]; omega) ?_)
  rw [wrap_id (by omega) (by omega), u8_id (by omega) (by omega)]
  refine tc (impl_addBytes.sp (by omega) (-1 - clampV n) 255 (fun b => 255 - b) flip_r n2 (by simp only [List.length_append, List.length_singleton]; omega)) (tl ?_)
  rw [← beM_dig]
  simp
theorem impl_addFix.sp {d : Nat} (hd : 2 ≤ d) {l : List Int} {n : Int} (hs : l.length ≤ 100000000000) : impl_addFix.f d (l, n) = some (l ++ fixM n) := by
 obtain ⟨d, rfl, _⟩ := dep hd
 rw [impl_addFix.t_eq]
 dsimp only [impl_addFix.m]
 have hb := clampF_bd n
 refine Tells.eq (tc (impl_clamp.fix (by omega) n) ?_)
 rw [wrap_id (by omega) (by omega)]
 refine tc (impl_addBytes.sp (n := 4) (by omega) (clampF n + 2147483648) 0 (fun b => b) flip_0 (by decide) (by omega)) (tl ?_)
 unfold fixM; simp
theorem spec_l4Bytes.loop {d : Nat} : ∀ (j k : Nat) (x : Int) (s : List Int), j < k → x < 256 ^ j → s.length + j ≤ 100 → Tells (iter (spec_l4Bytes.S0 d) k (x, s)) (· = beM j x ++ s) := by
 intro j
 induction j with
 | zero =>
  intro k x n hk hx _
  obtain ⟨k, rfl⟩ : ∃ k', k = k' + 1 := ⟨k - 1, by omega⟩
  rw [iter]
  dsimp only [spec_l4Bytes.S0, spec_l4Bytes.s0]
  rw [Int.pow_zero] at hx
  exact tn (by omega) (tl rfl)
 | succ j ih =>
  intro k x s hk hx hs
  obtain ⟨k, rfl⟩ : ∃ k', k = k' + 1 := ⟨k - 1, by omega⟩
  rw [iter]
  dsimp only [spec_l4Bytes.S0, spec_l4Bytes.s0]
  rw [beM, fdiv8]
  refine tif (fun h => tp (by simp only [List.length_singleton]; omega) (tp (by decide) ?_)) fun h => tl (by rw [if_neg h]; rfl)
  rw [if_pos h, IntKind.wrap_u8]
  refine (ih k (x / 256) ([x % 256] ++ s) (by omega) ?_ (by simp only [List.length_append, List.length_singleton]; omega)).mono fun r hr => by rw [hr, List.append_assoc]
  rw [Int.pow_succ] at hx
  exact Int.ediv_lt_of_lt_mul (by omega) hx
theorem spec_l4Bytes.sp {d : Nat} (hd : 1 ≤ d) {x : Int} (hx : x < 256 ^ 7) : spec_l4Bytes.f d x = some (beM 7 x) := by
 obtain ⟨d, rfl, _⟩ := dep hd
 rw [spec_l4Bytes.t_eq]
 dsimp only [spec_l4Bytes.m]
 have := (spec_l4Bytes.loop (d := d) 7 rnds x [] (rnds_gt (by decide)) hx (by decide)).eq
 rw [List.append_nil] at this
 exact this
theorem flip_u8 {b : Int} (h0 : 0 ≤ b) (h1 : b ≤ 255) : IntKind.wrap IntKind.u8 ((BitVec.ofInt (IntKind.bits IntKind.u8) (if IntKind.signed IntKind.u8 then -1 else IntKind.max IntKind.u8) ^^^ BitVec.ofInt (IntKind.bits IntKind.u8) b).toNat : Int) = 255 - b := flip_l b h0 h1
theorem set_app {a b : List Int} {x y : Int} : (a ++ x :: b).set a.length y = (a ++ [y]) ++ b := by simp
theorem at_app {a b : List Int} {x z : Int} : List.getD (a ++ x :: b) (Int.toNat (a.length : Int)) z = x := getD_at (by simp)
theorem impl_Flip.loop {d : Nat} : ∀ (b a : List Int) (k : Nat), b.length < k → (∀ x ∈ b, 0 ≤ x ∧ x ≤ 255) → a.length + b.length ≤ 140737488355328 → Tells (iter (impl_Flip.S0 d) k ((a.length : Int), a ++ b)) (· = a ++ b.map fun x => 255 - x)
 | [], a, k, hk, _, hs => by
  obtain ⟨k, rfl⟩ : ∃ k', k = k' + 1 := ⟨k - 1, by omega⟩
  rw [iter]
  dsimp only [impl_Flip.S0, impl_Flip.s0]
  exact tn (by simp) (tl rfl)
 | x :: b, a, k, hk, hb, hs => by
  obtain ⟨k, rfl⟩ : ∃ k', k = k' + 1 := ⟨k - 1, by omega⟩
  rw [List.length_cons] at hk hs
  rw [iter]
  dsimp only [impl_Flip.S0, impl_Flip.s0]
  have h := hb x List.mem_cons_self
  have hi : a.length < (a ++ x :: b).length := by simp
  rw [at_app, flip_u8 h.1 h.2, wrap_succ (by omega), Int.toNat_natCast, set_app]
  refine tp (by omega) (ti hi (ti hi ?_))
  have ih := impl_Flip.loop (d := d) b (a ++ [255 - x]) k (by omega) (fun y hy => hb y (List.mem_cons_of_mem _ hy)) (by simp only [List.length_append, List.length_singleton]; omega)
  rw [List.length_append, List.length_singleton] at ih
  exact ih.mono fun r hr => by rw [hr]; simp
theorem impl_Flip.sp {d : Nat} (hd : 2 ≤ d) {a b : List Int} (hb : ∀ x ∈ b, 0 ≤ x ∧ x ≤ 255) (hs : a.length + b.length ≤ 100000000000) : impl_Flip.f d (a ++ b, (a.length : Int)) = some (a ++ b.map fun x => 255 - x) := by
 obtain ⟨d, rfl, _⟩ := dep hd
 rw [impl_Flip.t_eq]
 dsimp only [impl_Flip.m]
 refine Tells.eq (tc (impl_copyBytes.sp (by omega) (by rw [List.length_append]; omega)) ?_)
 rw [decide_eq_false (by omega), cond_false]
 exact impl_Flip.loop b a rnds (rnds_gt (by omega)) hb (by omega)
theorem spec_Flip.loop {d : Nat} (n : Nat) : ∀ (b a : List Int) (k : Nat), b.length < k → (∀ x ∈ b, 0 ≤ x ∧ x ≤ 255) → a.length + b.length ≤ 140737488355328 → n ≤ a.length → Tells (iter (spec_Flip.S0 d) k ((n : Int), (a.length : Int), a ++ b)) (· = a ++ b.map fun x => 255 - x)
 | [], a, k, hk, _, hs, _ => by
  obtain ⟨k, rfl⟩ : ∃ k', k = k' + 1 := ⟨k - 1, by omega⟩
  rw [iter]
  dsimp only [spec_Flip.S0, spec_Flip.s0]
  exact tn (by simp) (tl rfl)
 | x :: b, a, k, hk, hb, hs, hn => by
  obtain ⟨k, rfl⟩ : ∃ k', k = k' + 1 := ⟨k - 1, by omega⟩
  rw [List.length_cons] at hk hs
  rw [iter]
  dsimp only [spec_Flip.S0, spec_Flip.s0]
  have h := hb x List.mem_cons_self
  have hi : a.length < (a ++ x :: b).length := by simp
  rw [at_app, flip_u8 h.1 h.2, wrap_succ (by omega), Int.toNat_natCast, set_app]
  refine tp (by omega) (tp (by omega) (ti hi (ti hi ?_)))
  have ih := spec_Flip.loop (d := d) n b (a ++ [255 - x]) k (by omega) (fun y hy => hb y (List.mem_cons_of_mem _ hy)) (by simp only [List.length_append, List.length_singleton]; omega) (by simp only [List.length_append, List.length_singleton]; omega)
  rw [List.length_append, List.length_singleton] at ih
  exact ih.mono fun r hr => by rw [hr]; simp
theorem spec_Flip.ahead {d : Nat} (n : Nat) (b : List Int) (hn : n < b.length) (hs : b.length ≤ 140737488355328) (P : List Int → Prop) (hk : ∀ k, b.length < k + n → Tells (iter (spec_Flip.S0 d) k ((n : Int), (n : Int), b)) P) : ∀ (j i k : Nat), i + j = n → b.length < k + i → Tells (iter (spec_Flip.S0 d) k ((n : Int), (i : Int), b)) P
 | 0, i, k, e, h => by
  have : i = n := by omega
  subst this
  exact hk k (by omega)
 | j + 1, i, k, e, h => by
  obtain ⟨k, rfl⟩ : ∃ k', k = k' + 1 := ⟨k - 1, by omega⟩
  rw [iter]
  dsimp only [spec_Flip.S0, spec_Flip.s0]
  rw [wrap_succ (by omega)]
  exact tp (by omega) (tn (by omega) (spec_Flip.ahead n b hn hs P hk j (i + 1) k (by omega) (by omega)))
theorem spec_Flip.sp {d : Nat} (hd : 1 ≤ d) {a b : List Int} (hb : ∀ x ∈ b, 0 ≤ x ∧ x ≤ 255) (hs : a.length + b.length ≤ 100000000000) : spec_Flip.f d (a ++ b, (a.length : Int)) = some (a ++ b.map fun x => 255 - x) := by
 obtain ⟨d, rfl, _⟩ := dep hd
 rw [spec_Flip.t_eq]
 dsimp only [spec_Flip.m]
 refine Tells.eq (tp (by simp only [List.length_append, List.length_nil]; omega) ?_)
 rw [List.nil_append]
 cases b with
 | nil =>
  have loop : ∀ (j i k : Nat), i + j = a.length → j < k → Tells (iter (spec_Flip.S0 d) k ((a.length : Int), (i : Int), a)) (· = a) := by
   intro j
   induction j with
   | zero =>
    intro i k e hk
    obtain ⟨k, rfl⟩ : ∃ k', k = k' + 1 := ⟨k - 1, by omega⟩
    rw [iter]
    dsimp only [spec_Flip.S0, spec_Flip.s0]
    exact tn (by omega) (tl rfl)
   | succ j ih =>
    intro i k e hk
    obtain ⟨k, rfl⟩ : ∃ k', k = k' + 1 := ⟨k - 1, by omega⟩
    rw [iter]
    dsimp only [spec_Flip.S0, spec_Flip.s0]
    rw [wrap_succ (by omega)]
    exact tp (by omega) (tn (by omega) (ih (i + 1) k (by omega) (by omega)))
  rw [List.append_nil, List.map_nil, List.append_nil]
  exact loop a.length 0 rnds (by omega) (rnds_gt (by omega))
 | cons x b =>
  refine spec_Flip.ahead a.length (a ++ x :: b) (by simp) (by rw [List.length_append]; omega) _ (fun k h => ?_) a.length 0 rnds (by omega) (rnds_gt (by rw [List.length_append]; omega))
  exact spec_Flip.loop a.length (x :: b) a k (by rw [List.length_append] at h; omega) hb (by omega) (Nat.le_refl _)
open Go Go.Proofs
theorem spec_PutVar.sp {d : Nat} (hd : 2 ≤ d) {l : List Int} {n : Int} (hs : l.length ≤ 100000000000) : spec_PutVar.f d (l, n) = some (l ++ varM n) := by
 obtain ⟨d, rfl, _⟩ := dep hd
 rw [spec_PutVar.t_eq]
 dsimp only [spec_PutVar.m]
 have pos : ∀ v : Int, 0 ≤ v → v ≤ 1000000000000000 → clampV n = v → ∀ r, r = beM 7 v → (([] ++ l) ++ [IntKind.wrap IntKind.u8 (IntKind.wrap IntKind.i64 (128 + (r.length : Int)))]) ++ r = l ++ varM n := fun v h0 h1 e r hr => by
  have n1 := beM_len 7 v
  subst hr
  unfold varM
  rw [e, if_pos h0, wrap_id (by omega) (by omega), u8_id (by omega) (by omega)]
  simp
 have neg : ∀ v : Int, v < 0 → -1000000000000000 ≤ v → clampV n = v → ∀ r, r = beM 7 (-1 - v) → ∀ q, q = r.map (fun b => 255 - b) → (([] ++ l) ++ [IntKind.wrap IntKind.u8 (IntKind.wrap IntKind.i64 (127 - (r.length : Int)))]) ++ q = l ++ varM n := fun v h0 h1 e r hr q hq => by
  have n1 := beM_len 7 (-1 - v)
  subst hr hq
  unfold varM
  rw [e, if_neg (by omega), wrap_id (by omega) (by omega), u8_id (by omega) (by omega)]
  simp
 have flip : ∀ x : Int, spec_Flip.f d (beM 7 x, (0 : Int)) = some ((beM 7 x).map fun b => 255 - b) := fun x => by
  have n1 := beM_len 7 x
  have := spec_Flip.sp (d := d) (a := []) (by omega) (beM_bytes 7 x) (by simp only [List.length_nil]; omega)
  simpa using this
 refine Tells.eq (tif (fun h => tn (by decide) (tp (by decide) ?_)) fun h => tif (fun h2 => tn (by decide) ?_) fun h2 => tif (fun h3 => ?_) fun h3 => ?_)
 ·have n1 := beM_len 7 1000000000000000
  exact tc (spec_l4Bytes.sp (by omega) (by decide)) (tp (by simp; omega) (tp (by simp; omega) (tp (by simp; omega) (tl (pos _ (by decide) (by decide) (by unfold clampV; rw [if_pos h]) _ rfl)))))
 ·have n1 := beM_len 7 (-1 - (-1000000000000000))
  have n2 := beM_len 7 999999999999999
  exact tc (spec_l4Bytes.sp (x := -1 - (-1000000000000000)) (by omega) (by decide)) (tp (by simp; omega) (tp (by simp; omega) (tc (flip _) (tp (by simp; omega) (tl (neg _ (by decide) (by decide) (by unfold clampV; rw [if_neg h, if_pos h2]) _ rfl _ rfl))))))
 ·have n1 := beM_len 7 n
  exact tc (spec_l4Bytes.sp (by omega) (by omega)) (tp (by simp; omega) (tp (by simp; omega) (tp (by simp; omega) (tl (pos n h3 (by omega) (by unfold clampV; rw [if_neg h, if_neg h2]) _ rfl)))))
 ·have n1 := beM_len 7 (-1 - n)
  rw [wrap_id (x := (-1 : Int) - n) (by omega) (by omega)]
  exact tc (spec_l4Bytes.sp (by omega) (by omega)) (tp (by simp; omega) (tp (by simp; omega) (tc (flip _) (tp (by simp; omega) (tl (neg n (by omega) (by omega) (by unfold clampV; rw [if_neg h, if_neg h2]) _ rfl _ rfl))))))
theorem spec_PutFix.sp {d : Nat} (hd : 1 ≤ d) {l : List Int} {n : Int} (hs : l.length ≤ 100000000000) : spec_PutFix.f d (l, n) = some (l ++ fixM n) := by
 obtain ⟨d, rfl, _⟩ := dep hd
 rw [spec_PutFix.t_eq]
 dsimp only [spec_PutFix.m]
 have eq : ∀ v : Int, -2147483648 ≤ v → v ≤ 2147483647 → clampF n = v → ([] ++ l) ++ [IntKind.wrap IntKind.u8 (Int.fdiv (IntKind.wrap IntKind.i64 (v + 2147483648)) (2 ^ (min (Int.toNat (24 : Int)) (IntKind.bits IntKind.i64)))), IntKind.wrap IntKind.u8 (Int.fdiv (IntKind.wrap IntKind.i64 (v + 2147483648)) (2 ^ (min (Int.toNat (16 : Int)) (IntKind.bits IntKind.i64)))), IntKind.wrap IntKind.u8 (Int.fdiv (IntKind.wrap IntKind.i64 (v + 2147483648)) (2 ^ (min (Int.toNat (8 : Int)) (IntKind.bits IntKind.i64)))), IntKind.wrap IntKind.u8 (IntKind.wrap IntKind.i64 (v + 2147483648))] = l ++ fixM n := fun v h0 h1 e => by
  rw [wrap_id (by omega) (by omega), Int.fdiv_eq_ediv_of_nonneg _ (by decide), Int.fdiv_eq_ediv_of_nonneg _ (by decide), Int.fdiv_eq_ediv_of_nonneg _ (by decide)]
  unfold fixM
  rw [e]
  simp only [IntKind.wrap_u8, List.nil_append, digM]
  rw [show (256 : Int) ^ 0 = 1 from rfl, Int.ediv_one]
  rfl
 refine Tells.eq (tif (fun h => tn (by decide) ?_) fun h => tif (fun h2 => ?_) fun h2 => ?_)
 ·exact tp (by simp; omega) (tp (by decide) (tp (by decide) (tp (by decide) (tp (by simp; omega) (tl (eq _ (by decide) (by decide) (by unfold clampF; rw [if_pos h])))))))
 ·exact tp (by simp; omega) (tp (by decide) (tp (by decide) (tp (by decide) (tp (by simp; omega) (tl (eq _ (by decide) (by decide) (by unfold clampF; rw [if_neg h, if_pos h2])))))))
 ·exact tp (by simp; omega) (tp (by decide) (tp (by decide) (tp (by decide) (tp (by simp; omega) (tl (eq n (by omega) (by omega) (by unfold clampF; rw [if_neg h, if_neg h2])))))))
theorem impl_addEsc.sp {d : Nat} (hd : 1 ≤ d) {l : List Int} {s : ByteArray} (hl : l.length ≤ 10000000000) (hs : s.size ≤ 1000000000) : impl_addEsc.f d (l, s) = some (l ++ escM (bytesOf s)) := by
 obtain ⟨d, rfl, _⟩ := dep hd
 rw [impl_addEsc.t_eq]
 dsimp only [impl_addEsc.m]
 have sz := bytesOf_length s
 suffices g : Tells (iter (impl_addEsc.S0 d) rnds (s, (0 : Int), l)) (· = l ++ escM ((bytesOf s).drop 0)) by simpa using g.eq
 refine loop0 (σ := List Int) (impl_addEsc.S0 d) s.size (fun st i => (s, i, st)) (fun st i => st.length ≤ l.length + 2 * i) (fun st i r => r = st ++ escM ((bytesOf s).drop i)) l (by omega) (by omega) (fun L st h => ?_) fun L st i h hi ih => ?_
 ·dsimp only [impl_addEsc.S0, impl_addEsc.s0]
  refine tn (by omega) (tp (by simp; omega) (tl ?_))
  rw [← sz, List.drop_length]; rfl
 ·dsimp only [impl_addEsc.S0, impl_addEsc.s0]
  have hb : i < (bytesOf s).length := by omega
  rw [drop_at hb, get_byte hb, wrap_succ (by omega)]
  refine tp (by omega) (ti hi (tp (by simp; omega) (ti hi (teq (fun c => tp (by simp; omega) ?_) fun c => ?_))))
  ·exact (ih _ (by simp; omega)).mono fun r hr => by rw [hr, escM, if_pos c, c]; simp
  ·exact (ih _ (by simp; omega)).mono fun r hr => by rw [hr, escM, if_neg c]; simp
theorem spec_PutEsc.sp {d : Nat} (hd : 1 ≤ d) {l : List Int} {s : ByteArray} (hl : l.length ≤ 10000000000) (hs : s.size ≤ 1000000000) : spec_PutEsc.f d (l, s) = some (l ++ escM (bytesOf s)) := by
 obtain ⟨d, rfl, _⟩ := dep hd
 rw [spec_PutEsc.t_eq]
 dsimp only [spec_PutEsc.m]
 have sz := bytesOf_length s
 refine Tells.eq (tp (by simp; omega) ?_)
 rw [List.nil_append]
 suffices g : Tells (iter (spec_PutEsc.S0 d) rnds (s, (0 : Int), l)) (· = l ++ escM ((bytesOf s).drop 0)) by simpa using g
 refine loop0 (σ := List Int) (spec_PutEsc.S0 d) s.size (fun st i => (s, i, st)) (fun st i => st.length ≤ l.length + 2 * i) (fun st i r => r = st ++ escM ((bytesOf s).drop i)) l (by omega) (by omega) (fun L st h => ?_) fun L st i h hi ih => ?_
 ·dsimp only [spec_PutEsc.S0, spec_PutEsc.s0]
  refine tn (by omega) (tp (by simp; omega) (tl ?_))
  rw [← sz, List.drop_length]; rfl
 ·dsimp only [spec_PutEsc.S0, spec_PutEsc.s0]
  have hb : i < (bytesOf s).length := by omega
  rw [drop_at hb, get_byte hb, wrap_succ (by omega)]
  refine tp (by omega) (ti hi (tp (by simp; omega) (ti hi (teq (fun c => tp (by simp; omega) ?_) fun c => ?_))))
  ·exact (ih _ (by simp; omega)).mono fun r hr => by rw [hr, escM, if_pos c, c]; simp
  ·exact (ih _ (by simp; omega)).mono fun r hr => by rw [hr, escM, if_neg c]; simp
theorem digM_bytes (x : Int) : ∀ n, ∀ b ∈ digM x n, 0 ≤ b ∧ b ≤ 255
 | 0, b, h => by cases h
 | n + 1, b, h => by
  rw [digM] at h
  rcases List.mem_cons.1 h with e | h
  ·rw [e]; omega
  ·exact digM_bytes x n b h
theorem escM_ok : ∀ l : List Int, (∀ b ∈ l, 0 ≤ b ∧ b ≤ 255) → (∀ b ∈ escM l, 0 ≤ b ∧ b ≤ 255) ∧ (escM l).length ≤ 2 * l.length + 2
 | [], _ => ⟨by decide, by decide⟩
 | c :: r, h => by
  have ih := escM_ok r fun b hb => h b (List.mem_cons_of_mem _ hb)
  have hc := h c List.mem_cons_self
  rw [escM]
  split
  ·refine ⟨fun b hb => ?_, by simp only [List.length_cons]; omega⟩
   rcases List.mem_cons.1 hb with e | hb
   ·omega
   rcases List.mem_cons.1 hb with e | hb
   ·omega
   exact ih.1 b hb
  ·refine ⟨fun b hb => ?_, by simp only [List.length_cons]; omega⟩
   rcases List.mem_cons.1 hb with e | hb
   ·omega
   exact ih.1 b hb
theorem valB_ok (v : Vl) (h : v.2.2.size ≤ 30) : (∀ b ∈ valB v, 0 ≤ b ∧ b ≤ 255) ∧ (valB v).length ≤ 62 := by
 unfold valB
 split
 ·exact ⟨digM_bytes _ _, by unfold fixM; rw [digM_len]; decide⟩
 split
 ·exact ⟨varM_bytes _, by have := varM_len v.2.1; omega⟩
 split
 ·have := escM_ok (bytesOf v.2.2) (bytesOf_bytes _)
  have e := bytesOf_length v.2.2
  exact ⟨this.1, by omega⟩
 split
 ·refine ⟨fun b hb => ?_, by simp⟩
  rw [List.mem_singleton] at hb
  omega
 ·exact ⟨fun b hb => (List.not_mem_nil hb).elim, by simp⟩
theorem valOk_size {k n : Int} {s : ByteArray} (h : valOkM k n (bytesOf s) = true) : s.size ≤ 30 ∧ (k = 0 ∨ k = 1 ∨ k = 2 ∨ k = 3 ∨ k = 4) := by
 have e := bytesOf_length s
 have z : ∀ (c : Prop) (_ : Decidable c), (if c then decide (bytesOf s = []) else false) = true → s.size ≤ 30 := by
  intro c _ h
  split at h
  ·rw [decide_eq_true_eq] at h; rw [h] at e; rw [List.length_nil] at e; omega
  ·cases h
 unfold valOkM at h
 split at h
 ·exact ⟨z _ _ h, .inl (by assumption)⟩
 split at h
 ·exact ⟨z _ _ h, .inr (.inl (by assumption))⟩
 split at h
 ·exact ⟨z _ _ h, .inr (.inr (.inl (by assumption)))⟩
 split at h
 ·refine ⟨?_, .inr (.inr (.inr (.inl (by assumption))))⟩
  split at h
  ·rw [decide_eq_true_eq] at h; omega
  ·cases h
 split at h
 ·exact ⟨z _ _ h, .inr (.inr (.inr (.inr (by assumption))))⟩
 ·cases h
theorem rawB_ok {p : Pt} {v : Vl} (h : fitP p v = true) : (∀ b ∈ rawB p v, 0 ≤ b ∧ b ≤ 255) ∧ (rawB p v).length ≤ 63 := by
 have q := valB_ok v (valOk_size (fitP_of h).1).1
 unfold rawB
 refine ⟨app_bytes ?_ q.1, ?_⟩
 ·cases p.2.2.1
  ·intro b hb; cases hb
  ·intro b hb
   rw [cond_true, List.mem_singleton] at hb
   split at hb <;> omega
 ·rw [List.length_append]
  cases p.2.2.1
  ·simp only [cond_false, List.length_nil]; omega
  ·simp only [cond_true, List.length_singleton]; omega
theorem partB_raw (p : Pt) (v : Vl) : partB p v = flipIf p.2.2.2 (rawB p v) := rfl
theorem partB_len {p : Pt} {v : Vl} (h : fitP p v = true) : (partB p v).length ≤ 63 := by
 rw [partB_raw, flipIf_len]; exact (rawB_ok h).2
theorem impl_Flip.last {d : Nat} (hd : 2 ≤ d) {b : Bool} {l x y : List Int} (e : y = l ++ x) (hb : ∀ z ∈ x, 0 ≤ z ∧ z ≤ 255) (hs : l.length + x.length ≤ 100000000000) : Tells (bif b then Option.bind (impl_Flip.f d (y, (l.length : Int))) (fun r => some r) else some y) (· = l ++ flipIf b x) := by
 subst e
 cases b
 ·exact tl rfl
 ·exact tc (impl_Flip.sp hd hb hs) (tl rfl)
theorem spec_Flip.last {d : Nat} (hd : 1 ≤ d) {b : Bool} {l x y : List Int} (e : y = l ++ x) (hb : ∀ z ∈ x, 0 ≤ z ∧ z ≤ 255) (hs : l.length + x.length ≤ 100000000000) : Tells (bif b then Option.bind (spec_Flip.f d (y, (l.length : Int))) (fun r => some r) else some y) (· = l ++ flipIf b x) := by
 subst e
 cases b
 ·exact tl rfl
 ·exact tc (spec_Flip.sp hd hb hs) (tl rfl)
theorem none_toList (s : ByteArray) : (s.toList == (⟨#[]⟩ : ByteArray).toList) = decide (bytesOf s = []) := by
 rw [← empty_toList, show (⟨#[]⟩ : ByteArray).toList = [] by rw [ByteArray.toList_eq]]
theorem impl_ValOk.sp {d : Nat} (hd : 2 ≤ d) (v : Vl) : impl_ValOk.f d (v.1, v.2.1, v.2.2) = some (valOkM v.1 v.2.1 (bytesOf v.2.2)) := by
 obtain ⟨d, rfl, _⟩ := dep hd
 rw [impl_ValOk.t_eq]
 dsimp only [impl_ValOk.m]
 have e := none_toList v.2.2
 have z := bytesOf_length v.2.2
 unfold valOkM
 refine Tells.eq (teq (fun c => ?_) fun c => ?_)
 ·rw [if_pos c]
  refine teq (fun c2 => tl ?_) fun c2 => tl ?_
  ·rw [if_pos c2]; exact e
  ·rw [if_neg c2]
 rw [if_neg c]
 refine teq (fun c => ?_) fun c => ?_
 ·rw [if_pos c]
  refine tc (impl_in.sp (by omega) _ _ _) (tbif (fun c2 => tl ?_) fun c2 => tl ?_)
  ·rw [if_pos c2]; exact e
  ·rw [if_neg (by rw [c2]; simp)]
 rw [if_neg c]
 refine teq (fun c => ?_) fun c => ?_
 ·rw [if_pos c]
  refine tc (impl_in.sp (by omega) _ _ _) (tbif (fun c2 => tl ?_) fun c2 => tl ?_)
  ·rw [if_pos c2]; exact e
  ·rw [if_neg (by rw [c2]; simp)]
 rw [if_neg c]
 refine teq (fun c => ?_) fun c => ?_
 ·rw [if_pos c]
  refine teq (fun c2 => tl ?_) fun c2 => tl ?_
  ·rw [if_pos c2, z]
  ·rw [if_neg c2]
 rw [if_neg c]
 refine teq (fun c => ?_) fun c => ?_
 ·rw [if_pos c]
  refine tc (impl_in.sp (by omega) _ _ _) (tbif (fun c2 => tl ?_) fun c2 => tl ?_)
  ·rw [if_pos c2]; exact e
  ·rw [if_neg (by rw [c2]; simp)]
 ·rw [if_neg c]; exact tl rfl
theorem spec_ValOk.sp {d : Nat} (hd : 2 ≤ d) (v : Vl) : spec_ValOk.f d (v.1, v.2.1, v.2.2) = some (valOkM v.1 v.2.1 (bytesOf v.2.2)) := by
 obtain ⟨d, rfl, _⟩ := dep hd
 rw [spec_ValOk.t_eq]
 dsimp only [spec_ValOk.m]
 have e := none_toList v.2.2
 have z := bytesOf_length v.2.2
 unfold valOkM
 refine Tells.eq (teq (fun c => ?_) fun c => ?_)
 ·rw [if_pos c]
  refine teq (fun c2 => tl ?_) fun c2 => tl ?_
  ·rw [if_pos c2]; exact e
  ·rw [if_neg c2]
 rw [if_neg c]
 refine teq (fun c => ?_) fun c => ?_
 ·rw [if_pos c]
  refine tc (spec_l1In.sp (by omega) _ _ _) (tbif (fun c2 => tl ?_) fun c2 => tl ?_)
  ·rw [if_pos c2]; exact e
  ·rw [if_neg (by rw [c2]; simp)]
 rw [if_neg c]
 refine teq (fun c => ?_) fun c => ?_
 ·rw [if_pos c]
  refine tc (spec_l1In.sp (by omega) _ _ _) (tbif (fun c2 => tl ?_) fun c2 => tl ?_)
  ·rw [if_pos c2]; exact e
  ·rw [if_neg (by rw [c2]; simp)]
 rw [if_neg c]
 refine teq (fun c => ?_) fun c => ?_
 ·rw [if_pos c]
  refine tif (fun c2 => tl ?_) fun c2 => tl ?_
  ·by_cases c3 : v.2.1 = 0
   ·rw [if_pos c3, c3, z, decide_eq_true c2]; rfl
   ·rw [if_neg c3, beq_eq_false_iff_ne]; exact c3
  ·split
   ·rw [z, decide_eq_false c2]
   ·rfl
 rw [if_neg c]
 refine teq (fun c => ?_) fun c => ?_
 ·rw [if_pos c]
  refine tc (spec_l1In.sp (by omega) _ _ _) (tbif (fun c2 => tl ?_) fun c2 => tl ?_)
  ·rw [if_pos c2]; exact e
  ·rw [if_neg (by rw [c2]; simp)]
 ·rw [if_neg c]; exact tl rfl
theorem fit_tail {v : Vl} {p : Pt} : Tells (bif v.1 == p.2.1 then bif v.1 != 0 then some true else bif v.1 == 0 then some p.2.2.1 else some false else bif v.1 == 0 then some p.2.2.1 else some false) (· = if v.1 = p.2.1 then (if v.1 = 0 then p.2.2.1 else true) else (if v.1 = 0 then p.2.2.1 else false)) := by
 refine teq (fun c => ?_) fun c => ?_
 ·rw [if_pos c]
  refine tneq (fun c2 => tl ?_) fun c2 => teq (fun c3 => tl ?_) fun c3 => absurd c2 c3
  ·rw [if_neg c2]
  ·rw [if_pos c3]
 ·rw [if_neg c]
  refine teq (fun c3 => tl ?_) fun c3 => tl ?_
  ·rw [if_pos c3]
  ·rw [if_neg c3]
theorem impl_Fits.sp {d : Nat} (hd : 3 ≤ d) (p : Pt) (v : Vl) : impl_Fits.f d (p.1, p.2.1, p.2.2.1, p.2.2.2, v.1, v.2.1, v.2.2) = some (fitP p v) := by
 obtain ⟨d, rfl, _⟩ := dep hd
 rw [impl_Fits.t_eq]
 dsimp only [impl_Fits.m]
 unfold fitP fitsM
 refine Tells.eq (tc (impl_ValOk.sp (by omega) v) (tbif (fun c => ?_) fun c => tl ?_))
 ·rw [if_pos c]; exact fit_tail
 ·rw [if_neg (by rw [c]; simp)]
theorem spec_Fits.sp {d : Nat} (hd : 3 ≤ d) (p : Pt) (v : Vl) : spec_Fits.f d (p.1, p.2.1, p.2.2.1, p.2.2.2, v.1, v.2.1, v.2.2) = some (fitP p v) := by
 obtain ⟨d, rfl, _⟩ := dep hd
 rw [spec_Fits.t_eq]
 dsimp only [spec_Fits.m]
 unfold fitP fitsM
 refine Tells.eq (tc (spec_ValOk.sp (by omega) v) (tbif (fun c => ?_) fun c => tl ?_))
 ·rw [if_pos c]; exact fit_tail
 ·rw [if_neg (by rw [c]; simp)]
open Go Go.Proofs
theorem impl_addPart.chain {d : Nat} (hd : 2 ≤ d) {l Y pre : List Int} {k n : Int} {s : ByteArray} {ds : Bool} (hY : Y = l ++ pre) (hl : l.length ≤ 1000000000) (hp : pre.length ≤ 1) (hs : s.size ≤ 30) (hb : ∀ b ∈ pre, 0 ≤ b ∧ b ≤ 255) :
  Tells (bif k == 1 then Option.bind (impl_addFix.f d (Y, n)) (fun r => bif ds then Option.bind (impl_Flip.f d (r, (l.length : Int))) (fun r => some r) else some r)
   else bif k == 2 then Option.bind (impl_addVar.f d (Y, n)) (fun r => bif ds then Option.bind (impl_Flip.f d (r, (l.length : Int))) (fun r => some r) else some r)
   else bif k == 3 then Option.bind (impl_addEsc.f d (Y, s)) (fun r => bif ds then Option.bind (impl_Flip.f d (r, (l.length : Int))) (fun r => some r) else some r)
   else bif k == 4 then bif decide ((Y.length + ([IntKind.wrap IntKind.u8 n] : List Int).length) * 1 ≤ 140737488355328) then bif ds then Option.bind (impl_Flip.f d (Y ++ [IntKind.wrap IntKind.u8 n], (l.length : Int))) (fun r => some r) else some (Y ++ [IntKind.wrap IntKind.u8 n]) else none
   else bif ds then Option.bind (impl_Flip.f d (Y, (l.length : Int))) (fun r => some r) else some Y) (· = l ++ flipIf ds (pre ++ valB (k, n, s))) := by
 have ok := valB_ok (k, n, s) hs
 have hb2 := app_bytes hb ok.1
 have hl2 : l.length + (pre ++ valB (k, n, s)).length ≤ 100000000000 := by rw [List.length_append]; omega
 have yl : Y.length = l.length + pre.length := by rw [hY, List.length_append]
 refine teq (fun c => ?_) fun c1 => teq (fun c => ?_) fun c2 => teq (fun c => ?_) fun c3 => teq (fun c => ?_) fun c4 => ?_
 ·refine tc (impl_addFix.sp (by omega) (by omega)) (impl_Flip.last hd ?_ hb2 hl2)
  rw [hY, List.append_assoc]; unfold valB; rw [if_pos c]
 ·refine tc (impl_addVar.sp (by omega) (by omega)) (impl_Flip.last hd ?_ hb2 hl2)
  rw [hY, List.append_assoc]; unfold valB; rw [if_neg c1, if_pos c]
 ·refine tc (impl_addEsc.sp (by omega) (by omega) (by omega)) (impl_Flip.last hd ?_ hb2 hl2)
  rw [hY, List.append_assoc]; unfold valB; rw [if_neg c1, if_neg c2, if_pos c]
 ·refine tp (by rw [List.length_singleton]; omega) (impl_Flip.last hd ?_ hb2 hl2)
  rw [hY, List.append_assoc, IntKind.wrap_u8]; unfold valB; rw [if_neg c1, if_neg c2, if_neg c3, if_pos c]
 ·refine impl_Flip.last hd ?_ hb2 hl2
  rw [hY]; unfold valB; rw [if_neg c1, if_neg c2, if_neg c3, if_neg c4, List.append_nil]
theorem impl_addPart.sp {d : Nat} (hd : 4 ≤ d) {l : List Int} {p : Pt} {v : Vl} (hl : l.length ≤ 1000000000) (hp : partOkM p.1 p.2.1 = true) (hf : fitP p v = true) : impl_addPart.f d (l, p.1, p.2.1, p.2.2.1, p.2.2.2, v.1, v.2.1, v.2.2) = some (l ++ partB p v) := by
 obtain ⟨d, rfl, _⟩ := dep hd
 rw [impl_addPart.t_eq]
 dsimp only [impl_addPart.m]
 have sz := valOk_size (fitP_of hf).1
 have fo := (fitP_of hf).2
 have po := impl_PartOk.sp (d := d) (by omega) p
 have fi := impl_Fits.sp (d := d) (by omega) p v
 rw [hp] at po
 rw [hf] at fi
 refine Tells.eq (tc po (tf rfl (tc fi (tf rfl ?_))))
 rw [partB_raw]
 unfold rawB
 obtain ⟨pc, ty, nu, ds⟩ := p
 obtain ⟨k, n, s⟩ := v
 dsimp only at sz fo ⊢
 cases nu with
 | true =>
  refine tt rfl (teq (fun c => tp (by rw [List.length_singleton]; omega) ?_) fun c => tt rfl (tp (by rw [List.length_singleton]; omega) ?_))
  ·have q := impl_addPart.chain (d := d) (l := l) (Y := l ++ [(0 : Int)]) (pre := [(0 : Int)]) (k := k) (n := n) (s := s) (ds := ds) (by omega) rfl hl (by simp) sz.1 (by simp)
   rw [if_pos c]
   exact q
  ·have q := impl_addPart.chain (d := d) (l := l) (Y := l ++ [(1 : Int)]) (pre := [(1 : Int)]) (k := k) (n := n) (s := s) (ds := ds) (by omega) rfl hl (by simp) sz.1 (by simp)
   rw [if_neg c]
   exact q
 | false =>
  refine tf rfl (tf rfl ?_)
  exact impl_addPart.chain (d := d) (l := l) (Y := l) (pre := []) (k := k) (n := n) (s := s) (ds := ds) (by omega) (by rw [List.append_nil]) hl (by simp) sz.1 (by simp)
theorem spec_l5Value.sp {d : Nat} (hd : 3 ≤ d) {l : List Int} {v : Vl} (hl : l.length ≤ 1000000001) (hs : v.2.2.size ≤ 30) (hk : v.1 = 1 ∨ v.1 = 2 ∨ v.1 = 3 ∨ v.1 = 4) : spec_l5Value.f d (l, v.1, v.2.1, v.2.2) = some (l ++ valB v) := by
 obtain ⟨d, rfl, _⟩ := dep hd
 rw [spec_l5Value.t_eq]
 dsimp only [spec_l5Value.m]
 unfold valB
 refine Tells.eq (teq (fun c => ?_) fun c1 => teq (fun c => ?_) fun c2 => teq (fun c => ?_) fun c3 => ?_)
 ·rw [if_pos c]; exact tc (spec_PutFix.sp (by omega) (by omega)) (tl rfl)
 ·rw [if_neg c1, if_pos c]; exact tc (spec_PutVar.sp (by omega) (by omega)) (tl rfl)
 ·rw [if_neg c1, if_neg c2, if_pos c]; exact tc (spec_PutEsc.sp (by omega) (by omega) (by omega)) (tl rfl)
 ·rw [if_neg c1, if_neg c2, if_neg c3, if_pos (by omega)]
  refine tp (by simp only [List.length_nil]; omega) (tp (by simp only [List.length_append, List.length_nil, List.length_singleton]; omega) (tl ?_))
  rw [IntKind.wrap_u8, List.nil_append]
theorem spec_PartOk.sp {d : Nat} (hd : 2 ≤ d) (p : Pt) : spec_PartOk.f d (p.1, p.2.1, p.2.2.1, p.2.2.2) = some (partOkM p.1 p.2.1) := by
 obtain ⟨d, rfl, _⟩ := dep hd
 rw [spec_PartOk.t_eq]
 dsimp only [spec_PartOk.m]
 unfold partOkM
 refine Tells.eq (tc (spec_l1In.sp (by omega) _ _ _) (tbif (fun c => ?_) fun c => ?_))
 ·rw [if_pos c]; exact tc (spec_l1In.sp (by omega) _ _ _) (tl rfl)
 ·rw [if_neg (by rw [c]; simp)]; exact tl rfl
theorem spec_PutPart.sp {d : Nat} (hd : 4 ≤ d) {l : List Int} {p : Pt} {v : Vl} (hl : l.length ≤ 1000000000) (hp : partOkM p.1 p.2.1 = true) (hf : fitP p v = true) : spec_PutPart.f d (l, p.1, p.2.1, p.2.2.1, p.2.2.2, v.1, v.2.1, v.2.2) = some (l ++ partB p v) := by
 obtain ⟨d, rfl, _⟩ := dep hd
 rw [spec_PutPart.t_eq]
 dsimp only [spec_PutPart.m]
 have sz := valOk_size (fitP_of hf).1
 have fo := (fitP_of hf).2
 have ok := rawB_ok hf
 have po := spec_PartOk.sp (d := d) (by omega) p
 have fi := spec_Fits.sp (d := d) (by omega) p v
 rw [hp] at po
 rw [hf] at fi
 refine Tells.eq (tp (by simp only [List.length_nil]; omega) (tc po (tf rfl (tc fi (tf rfl ?_)))))
 rw [List.nil_append, partB_raw]
 have fin : ∀ y, y = l ++ rawB p v → Tells (bif p.2.2.2 then Option.bind (spec_Flip.f d (y, (l.length : Int))) (fun r => some r) else some y) (· = l ++ flipIf p.2.2.2 (rawB p v)) := fun y e => spec_Flip.last (by omega) e ok.1 (by omega)
 refine teq (fun c => tp (by rw [List.length_singleton]; omega) (fin _ ?_)) fun c => ?_
 ·have nu : p.2.2.1 = true := by rcases fo with h | h
                                 ·exact h.2 c
                                 ·exact h.2
  unfold rawB valB
  rw [nu, cond_true, if_pos c, if_neg (by omega), if_neg (by omega), if_neg (by omega), if_neg (by omega)]; rfl
 ·refine tbif (fun nu => tp (by rw [List.length_singleton]; omega) (tc (spec_l5Value.sp (by omega) (by rw [List.length_append, List.length_singleton]; omega) sz.1 (by omega)) (fin _ ?_))) fun nu => tc (spec_l5Value.sp (by omega) (by omega) sz.1 (by omega)) (fin _ ?_)
  ·unfold rawB
   rw [nu, cond_true, if_neg c, List.append_assoc]
  ·unfold rawB
   rw [nu]; rfl
theorem spec_PlanOk.sp {d : Nat} (hd : 3 ≤ d) {l : List Pt} (hl : l.length ≤ 140737488351232) : spec_PlanOk.f d l = some (planOkM l) := by
 obtain ⟨d, rfl, _⟩ := dep hd
 rw [spec_PlanOk.t_eq]
 dsimp only [spec_PlanOk.m]
 suffices g : Tells (iter (spec_PlanOk.S0 d) rnds (l, (0 : Int))) (· = (l.all (fun p => partOkM p.1 p.2.1) && decide (l.length ≤ 6))) from g.eq
 refine loopL (spec_PlanOk.S0 d) l (fun i => (l, i)) (fun i (r : List Pt) => r.all (fun p => partOkM p.1 p.2.1) && decide (l.length ≤ 6)) (by omega) (fun L => ?_) fun L i hi ih => ?_
 ·dsimp only [spec_PlanOk.S0, spec_PlanOk.s0]
  refine tn (by omega) (tl ?_)
  rw [List.all_nil, Bool.true_and, decide_eq_decide]; omega
 ·dsimp only [spec_PlanOk.S0, spec_PlanOk.s0]
  refine tp (by omega) (ti hi ?_)
  rw [getD_in hi, wrap_succ (by omega), List.all_cons]
  refine tc (spec_PartOk.sp (by omega) _) ?_
  cases partOkM l[i].1 l[i].2.1
  ·exact tt rfl (tl rfl)
  ·exact tf rfl (ih.mono fun r hr => by rw [hr, Bool.true_and])
def fitsAllM (l : List Pt) (vs : List Vl) : Bool := decide (vs.length ≤ l.length) && (l.zip vs).all fun x => fitP x.1 x.2
theorem impl_FitsAll.sp {d : Nat} (hd : 4 ≤ d) {l : List Pt} {vs : List Vl} (hv : vs.length ≤ 140737488351232) : impl_FitsAll.f d (l, vs) = some (fitsAllM l vs) := by
 obtain ⟨d, rfl, _⟩ := dep hd
 rw [impl_FitsAll.t_eq]
 dsimp only [impl_FitsAll.m]
 unfold fitsAllM
 refine Tells.eq (tif (fun c => tl (by rw [decide_eq_false (by omega)]; rfl)) fun c => ?_)
 rw [decide_eq_true (by omega), Bool.true_and]
 refine loopE (impl_FitsAll.S0 d) vs.length (fun i => (l, vs, (vs.length : Int), i)) (fun i r => r = ((l.drop i).zip (vs.drop i)).all fun x => fitP x.1 x.2) (by omega) (fun L => ?_) fun L i hi ih => ?_
 ·dsimp only [impl_FitsAll.S0, impl_FitsAll.s0]
  refine tn (by omega) (tl ?_)
  rw [List.drop_length, List.zip_nil_right]; rfl
 ·dsimp only [impl_FitsAll.S0, impl_FitsAll.s0]
  have hi2 : i < l.length := by omega
  refine tp (by omega) (ti hi (ti hi2 ?_))
  rw [getD_in hi, getD_in hi2, wrap_succ (by omega), drop_at hi, drop_at hi2, List.zip_cons_cons, List.all_cons]
  refine tc (impl_Fits.sp (by omega) l[i] vs[i]) ?_
  cases fitP l[i] vs[i]
  ·exact tt rfl (tl rfl)
  ·exact tf rfl (ih.mono fun r hr => by rw [hr, Bool.true_and])
theorem spec_FitsAll.sp {d : Nat} (hd : 4 ≤ d) {l : List Pt} {vs : List Vl} (hv : vs.length ≤ 140737488351232) : spec_FitsAll.f d (l, vs) = some (fitsAllM l vs) := by
 obtain ⟨d, rfl, _⟩ := dep hd
 rw [spec_FitsAll.t_eq]
 dsimp only [spec_FitsAll.m]
 unfold fitsAllM
 refine Tells.eq (tif (fun c => tl (by rw [decide_eq_false (by omega)]; rfl)) fun c => ?_)
 rw [decide_eq_true (by omega), Bool.true_and]
 refine loopE (spec_FitsAll.S0 d) vs.length (fun i => (l, vs, i)) (fun i r => r = ((l.drop i).zip (vs.drop i)).all fun x => fitP x.1 x.2) (by omega) (fun L => ?_) fun L i hi ih => ?_
 ·dsimp only [spec_FitsAll.S0, spec_FitsAll.s0]
  refine tn (by omega) (tl ?_)
  rw [List.drop_length, List.zip_nil_right]; rfl
 ·dsimp only [spec_FitsAll.S0, spec_FitsAll.s0]
  have hi2 : i < l.length := by omega
  refine tp (by omega) (ti hi2 (ti hi ?_))
  rw [getD_in hi, getD_in hi2, wrap_succ (by omega), drop_at hi, drop_at hi2, List.zip_cons_cons, List.all_cons]
  refine tc (spec_Fits.sp (by omega) l[i] vs[i]) ?_
  cases fitP l[i] vs[i]
  ·exact tt rfl (tl rfl)
  ·exact tf rfl (ih.mono fun r hr => by rw [hr, Bool.true_and])
def rowOkM (l : List Pt) (vs : List Vl) : Bool := planOkM l && (decide ((vs.length : Int) = l.length) && fitsAllM l vs)
theorem impl_RowOk.sp {d : Nat} (hd : 5 ≤ d) {l : List Pt} {vs : List Vl} (hl : l.length ≤ 140737488351232) (hv : vs.length ≤ 140737488351232) : impl_RowOk.f d (l, vs) = some (rowOkM l vs) := by
 obtain ⟨d, rfl, _⟩ := dep hd
 rw [impl_RowOk.t_eq]
 dsimp only [impl_RowOk.m]
 unfold rowOkM
 refine Tells.eq (tc (impl_PlanOk.sp (by omega) hl) ?_)
 cases planOkM l
 ·exact tf rfl (tl rfl)
 refine tt rfl (teq (fun c => ?_) fun c => tl ?_)
 ·rw [decide_eq_true c]; exact tc (impl_FitsAll.sp (by omega) hv) (tl rfl)
 ·rw [decide_eq_false c]; rfl
theorem spec_RowOk.sp {d : Nat} (hd : 5 ≤ d) {l : List Pt} {vs : List Vl} (hl : l.length ≤ 140737488351232) (hv : vs.length ≤ 140737488351232) : spec_RowOk.f d (l, vs) = some (rowOkM l vs) := by
 obtain ⟨d, rfl, _⟩ := dep hd
 rw [spec_RowOk.t_eq]
 dsimp only [spec_RowOk.m]
 unfold rowOkM
 refine Tells.eq (tc (spec_PlanOk.sp (by omega) hl) ?_)
 cases planOkM l
 ·exact tf rfl (tl rfl)
 refine tt rfl (teq (fun c => ?_) fun c => tl ?_)
 ·rw [decide_eq_true c]; exact tc (spec_FitsAll.sp (by omega) hv) (tl rfl)
 ·rw [decide_eq_false c]; rfl
def encM (l : List Pt) (vs : List Vl) : List Int := bif planOkM l && fitsAllM l vs then keyB l vs else []
theorem planOk_of {l : List Pt} (h : planOkM l = true) : (∀ p ∈ l, partOkM p.1 p.2.1 = true) ∧ l.length ≤ 6 := by
 unfold planOkM at h
 rw [Bool.and_eq_true, List.all_eq_true, decide_eq_true_eq] at h
 exact h
theorem fitsAll_of {l : List Pt} {vs : List Vl} (h : fitsAllM l vs = true) : vs.length ≤ l.length ∧ ∀ x ∈ l.zip vs, fitP x.1 x.2 = true := by
 unfold fitsAllM at h
 rw [Bool.and_eq_true, List.all_eq_true, decide_eq_true_eq] at h
 exact h
theorem keyB_len : ∀ (l : List Pt) (vs : List Vl), (∀ x ∈ l.zip vs, fitP x.1 x.2 = true) → (keyB l vs).length ≤ 63 * l.length
 | [], _, _ => by simp [keyB]
 | _ :: _, [], _ => by simp [keyB]
 | p :: l, v :: vs, h => by
  rw [List.zip_cons_cons] at h
  have := keyB_len l vs fun x hx => h x (List.mem_cons_of_mem _ hx)
  have := partB_len (h (p, v) List.mem_cons_self)
  rw [keyB, List.length_append, List.length_cons]
  simp only at this
  omega
theorem encM_len (l : List Pt) (vs : List Vl) : (encM l vs).length ≤ 378 := by
 unfold encM
 cases h : planOkM l && fitsAllM l vs with
 | false => simp
 | true =>
  rw [Bool.and_eq_true] at h
  have a := planOk_of h.1
  have := keyB_len l vs (fitsAll_of h.2).2
  rw [cond_true]
  omega
theorem zip_at {l : List Pt} {vs : List Vl} {i : Nat} (h1 : i < l.length) (h2 : i < vs.length) : (l[i], vs[i]) ∈ l.zip vs := by
 rw [List.mem_iff_getElem]
 exact ⟨i, by rw [List.length_zip]; omega, by rw [List.getElem_zip]⟩
theorem impl_EncodeKey.sp {d : Nat} (hd : 5 ≤ d) {l : List Pt} {vs : List Vl} (hl : l.length ≤ 140737488351232) (hv : vs.length ≤ 140737488351232) : impl_EncodeKey.f d (l, vs) = some (encM l vs) := by
 obtain ⟨d, rfl, _⟩ := dep hd
 rw [impl_EncodeKey.t_eq]
 dsimp only [impl_EncodeKey.m]
 unfold encM
 refine Tells.eq (tc (impl_PlanOk.sp (by omega) hl) ?_)
 cases hp : planOkM l with
 | false => exact tt rfl (tl rfl)
 | true =>
 refine tf rfl (tc (impl_FitsAll.sp (by omega) hv) ?_)
 cases hf : fitsAllM l vs with
 | false => exact tt rfl (tl rfl)
 | true =>
 have po := planOk_of hp
 have fo := fitsAll_of hf
 refine tf rfl ?_
 show Tells _ (· = [] ++ keyB (l.drop 0) (vs.drop 0))
 refine loop0 (σ := List Int) (impl_EncodeKey.S0 d) vs.length (fun st i => (l, vs, (vs.length : Int), i, st)) (fun st i => st.length ≤ 63 * i) (fun st i r => r = st ++ keyB (l.drop i) (vs.drop i)) [] (by omega) (by simp) (fun L st h => ?_) fun L st i h hi ih => ?_
 ·dsimp only [impl_EncodeKey.S0, impl_EncodeKey.s0]
  refine tn (by omega) (tl ?_)
  rw [List.drop_length, keyB, List.append_nil]; exact fun _ _ _ _ _ e => by cases e
 ·dsimp only [impl_EncodeKey.S0, impl_EncodeKey.s0]
  have hi2 : i < l.length := by omega
  have ft := fo.2 _ (zip_at hi2 hi)
  have pl := partB_len ft
  simp only at ft pl
  refine tp (by omega) (ti hi (ti hi2 ?_))
  rw [getD_in hi, getD_in hi2, wrap_succ (by omega), drop_at hi, drop_at hi2, keyB]
  refine tc (impl_addPart.sp (by omega) (by omega) (po.1 _ (List.getElem_mem hi2)) ft) ?_
  exact (ih _ (by rw [List.length_append]; omega)).mono fun r hr => by rw [hr, List.append_assoc]
theorem spec_EncodeKey.sp {d : Nat} (hd : 5 ≤ d) {l : List Pt} {vs : List Vl} (hl : l.length ≤ 140737488351232) (hv : vs.length ≤ 140737488351232) : spec_EncodeKey.f d (l, vs) = some (encM l vs) := by
 obtain ⟨d, rfl, _⟩ := dep hd
 rw [spec_EncodeKey.t_eq]
 dsimp only [spec_EncodeKey.m]
 unfold encM
 refine Tells.eq (tc (spec_PlanOk.sp (by omega) hl) ?_)
 cases hp : planOkM l with
 | false => exact tt rfl (tl rfl)
 | true =>
 refine tf rfl (tc (spec_FitsAll.sp (by omega) hv) ?_)
 cases hf : fitsAllM l vs with
 | false => exact tt rfl (tl rfl)
 | true =>
 have po := planOk_of hp
 have fo := fitsAll_of hf
 refine tf rfl ?_
 show Tells _ (· = [] ++ keyB (l.drop 0) (vs.drop 0))
 refine loop0 (σ := List Int) (spec_EncodeKey.S0 d) vs.length (fun st i => (l, vs, i, st)) (fun st i => st.length ≤ 63 * i) (fun st i r => r = st ++ keyB (l.drop i) (vs.drop i)) [] (by omega) (by simp) (fun L st h => ?_) fun L st i h hi ih => ?_
 ·dsimp only [spec_EncodeKey.S0, spec_EncodeKey.s0]
  refine tn (by omega) (tl ?_)
  rw [List.drop_length, keyB, List.append_nil]; exact fun _ _ _ _ _ e => by cases e
 ·dsimp only [spec_EncodeKey.S0, spec_EncodeKey.s0]
  have hi2 : i < l.length := by omega
  have ft := fo.2 _ (zip_at hi2 hi)
  have pl := partB_len ft
  simp only at ft pl
  refine tp (by omega) (ti hi2 (ti hi ?_))
  rw [getD_in hi, getD_in hi2, wrap_succ (by omega), drop_at hi, drop_at hi2, keyB]
  refine tc (spec_PutPart.sp (by omega) (by omega) (po.1 _ (List.getElem_mem hi2)) ft) ?_
  exact (ih _ (by rw [List.length_append]; omega)).mono fun r hr => by rw [hr, List.append_assoc]
open Go Go.Proofs
def pickV (row : List Vl) (p : Pt) : Vl := bif inB p.1 0 ((row.length : Int) - 1) then List.getD row (Int.toNat p.1) ((0 : Int), (0 : Int), ByteArray.empty) else ((0 : Int), (0 : Int), ByteArray.empty)
def pickM (l : List Pt) (row : List Vl) : List Vl := l.map (pickV row)
theorem impl_Pick.sp {d : Nat} (hd : 2 ≤ d) {l : List Pt} {row : List Vl} (hl : l.length ≤ 100) (hr : row.length ≤ 140737488351232) : impl_Pick.f d (l, row) = some (pickM l row) := by
 obtain ⟨d, rfl, _⟩ := dep hd
 rw [impl_Pick.t_eq]
 dsimp only [impl_Pick.m]
 refine Tells.eq (loopApp (impl_Pick.S0 d) l (pickV row) (fun st i => (row, l, (l.length : Int), i, st)) (· = pickM l row) (by omega) (fun L => ?_) fun L st i Q hi h ih => ?_)
 ·dsimp only [impl_Pick.S0, impl_Pick.s0]
  exact tn (by omega) (tl rfl)
 ·dsimp only [impl_Pick.S0, impl_Pick.s0]
  rw [getD_in hi, wrap_succ (by omega), wrap_id (x := (row.length : Int) - 1) (by omega) (by omega)]
  refine tp (by omega) (ti hi (tc (impl_in.sp (by omega) _ _ _) (tbif (fun c => ?_) fun c => ?_)))
  ·have q := inB_iff.1 c
   unfold pickV at ih
   rw [c, cond_true] at ih
   exact tand q.1 (by omega) (tp (by simp; omega) ih)
  ·unfold pickV at ih
   rw [c, cond_false] at ih
   exact tp (by simp; omega) ih
theorem spec_Pick.sp {d : Nat} (hd : 2 ≤ d) {l : List Pt} {row : List Vl} (hl : l.length ≤ 100) (hr : row.length ≤ 140737488351232) : spec_Pick.f d (l, row) = some (pickM l row) := by
 obtain ⟨d, rfl, _⟩ := dep hd
 rw [spec_Pick.t_eq]
 dsimp only [spec_Pick.m]
 refine Tells.eq (loopApp (spec_Pick.S0 d) l (pickV row) (fun st i => (l, row, i, st)) (· = pickM l row) (by omega) (fun L => ?_) fun L st i Q hi h ih => ?_)
 ·dsimp only [spec_Pick.S0, spec_Pick.s0]
  exact tn (by omega) (tl rfl)
 ·dsimp only [spec_Pick.S0, spec_Pick.s0]
  rw [getD_in hi, wrap_succ (by omega), wrap_id (x := (row.length : Int) - 1) (by omega) (by omega)]
  refine tp (by omega) (ti hi (tc (spec_l1In.sp (by omega) _ _ _) (tbif (fun c => ti hi ?_) fun c => ?_)))
  ·have q := inB_iff.1 c
   unfold pickV at ih
   rw [c, cond_true] at ih
   exact tand q.1 (by omega) (tp (by simp; omega) ih)
  ·unfold pickV at ih
   rw [c, cond_false] at ih
   exact tp (by simp; omega) ih
def planM (x : Df) (i : Int) : List Pt := bif decide (i < 0) then planP x else planI x i
theorem planM_len (x : Df) (i : Int) : (planM x i).length ≤ 10 := by
 unfold planM
 cases decide (i < 0)
 ·exact planI_len x i
 ·exact planP_len x
theorem impl_planOf.sp {d : Nat} (hd : 7 ≤ d) {x : Df} (h : dfFit 140737488351232 x) (i : Int) : impl_planOf.f d (x.1, x.2.1, x.2.2.1, x.2.2.2, i) = some (planM x i) := by
 obtain ⟨d, rfl, _⟩ := dep hd
 rw [impl_planOf.t_eq]
 dsimp only [impl_planOf.m]
 unfold planM
 refine Tells.eq (tif (fun c => ?_) fun c => ?_)
 ·rw [decide_eq_true c]; exact tc (impl_PrimaryPlan.sp (by omega) h) (tl rfl)
 ·rw [decide_eq_false c]; exact tc (impl_IndexPlan.sp (by omega) h i) (tl rfl)
theorem spec_l11Plan.sp {d : Nat} (hd : 8 ≤ d) {x : Df} (h : dfFit 140737488351232 x) {i : Int} (hi : -1 ≤ i) : spec_l11Plan.f d (x.1, x.2.1, x.2.2.1, x.2.2.2, i) = some (planM x i) := by
 obtain ⟨d, rfl, _⟩ := dep hd
 rw [spec_l11Plan.t_eq]
 dsimp only [spec_l11Plan.m]
 unfold planM
 refine Tells.eq (teq (fun c => ?_) fun c => ?_)
 ·rw [decide_eq_true (by omega)]; exact tc (spec_PrimaryPlan.sp (by omega) h) (tl rfl)
 ·rw [decide_eq_false (by omega)]; exact tc (spec_IndexPlan.sp (by omega) h i) (tl rfl)
def keyR (s : List Df) (t i : Int) (row : List Vl) : List Int := headM s t i ++ encM (planM (defAt s t) i) (pickM (planM (defAt s t) i) row)
theorem keyR_len (s : List Df) (t i : Int) (row : List Vl) : (keyR s t i row).length ≤ 380 := by
 have := headM_len s t i
 have := encM_len (planM (defAt s t) i) (pickM (planM (defAt s t) i) row)
 unfold keyR
 rw [List.length_append]
 omega
theorem pickM_len (l : List Pt) (row : List Vl) : (pickM l row).length = l.length := List.length_map ..
theorem impl_keyOf.sp {d : Nat} (hd : 9 ≤ d) {s : List Df} (hl : s.length ≤ 140737488351232) (hx : ∀ x ∈ s, dfFit 140737488351232 x) {t i : Int} (th : thereM s t i = true) {row : List Vl} (hr : row.length ≤ 140737488351232) : impl_keyOf.f d (s, t, i, row) = some (keyR s t i row) := by
 obtain ⟨d, rfl, _⟩ := dep hd
 rw [impl_keyOf.t_eq]
 dsimp only [impl_keyOf.m]
 have q := there_iff.1 th
 have pl := planM_len (defAt s t) i
 have hh := headM_len s t i
 have he := encM_len (planM (defAt s t) i) (pickM (planM (defAt s t) i) row)
 refine Tells.eq (tand q.2.1.1 q.2.1.2 ?_)
 refine tc (impl_planOf.sp (x := defAt s t) (by omega) (hx _ (defAt_mem q.2.1.1 q.2.1.2)) i) ?_
 refine tc (impl_HeadOf.sp (by omega) hl hx t i) (tc (impl_Pick.sp (by omega) (by omega) hr) (tc (impl_EncodeKey.sp (by omega) (by omega) (by rw [pickM_len]; omega)) (tp (by omega) (tl rfl))))
theorem spec_l11Key.sp {d : Nat} (hd : 10 ≤ d) {s : List Df} (hl : s.length ≤ 140737488351232) (hx : ∀ x ∈ s, dfFit 140737488351232 x) {t i : Int} (th : thereM s t i = true) {row : List Vl} (hr : row.length ≤ 140737488351232) : spec_l11Key.f d (s, t, i, row) = some (keyR s t i row) := by
 obtain ⟨d, rfl, _⟩ := dep hd
 rw [spec_l11Key.t_eq]
 dsimp only [spec_l11Key.m]
 have q := there_iff.1 th
 have pl := planM_len (defAt s t) i
 have hh := headM_len s t i
 have he := encM_len (planM (defAt s t) i) (pickM (planM (defAt s t) i) row)
 refine Tells.eq (tand q.2.1.1 q.2.1.2 ?_)
 refine tc (spec_l11Plan.sp (x := defAt s t) (by omega) (hx _ (defAt_mem q.2.1.1 q.2.1.2)) q.2.2.1) ?_
 refine tc (spec_HeadOf.sp (by omega) hl hx t i) (tc (spec_Pick.sp (by omega) (by omega) hr) (tc (spec_EncodeKey.sp (by omega) (by omega) (by rw [pickM_len]; omega)) (tp (by omega) (tl rfl))))
def rowM (s : List Df) (t : Int) (row : List Vl) : Bool := rowOkM (planR (defAt s t)) row
def keyM (s : List Df) (t i : Int) (row : List Vl) : List Int := bif thereM s t i && rowM s t row then keyR s t i row else []
theorem keyM_len (s : List Df) (t i : Int) (row : List Vl) : (keyM s t i row).length ≤ 380 := by
 unfold keyM
 cases thereM s t i && rowM s t row
 ·exact Nat.zero_le _
 ·exact keyR_len s t i row
theorem impl_KeyOf.sp {d : Nat} (hd : 10 ≤ d) {s : List Df} (hl : s.length ≤ 140737488351232) (hx : ∀ x ∈ s, dfFit 140737488351232 x) (t i : Int) {row : List Vl} (hr : row.length ≤ 140737488351232) : impl_KeyOf.f d (s, t, i, row) = some (keyM s t i row) := by
 obtain ⟨d, rfl, _⟩ := dep hd
 rw [impl_KeyOf.t_eq]
 dsimp only [impl_KeyOf.m]
 unfold keyM
 refine Tells.eq (tc (impl_hasIndex.sp (by omega) hl hx t i) ?_)
 cases th : thereM s t i with
 | false => exact tt rfl (tl rfl)
 | true =>
 have q := there_iff.1 th
 have rl := planR_len (defAt s t)
 refine tf rfl (tand q.2.1.1 q.2.1.2 (tc (impl_RowPlan.sp (x := defAt s t) (by omega) (hx _ (defAt_mem q.2.1.1 q.2.1.2))) (tc (impl_RowOk.sp (by omega) (by omega) hr) ?_)))
 unfold rowM
 cases rowOkM (planR (defAt s t)) row
 ·exact tt rfl (tl rfl)
 ·exact tf rfl (tc (impl_keyOf.sp (by omega) hl hx th hr) (tl rfl))
open Go Go.Proofs
def rowB (vs : List Vl) : List Int := vs.flatMap fun v => valM v.1 v.2.1 v.2.2
def rowT (st : List Int) (vs : List Vl) : List Int := (st ++ rowB vs) ++ sum4 (crcM (st ++ rowB vs))
def encR (l : List Pt) (vs : List Vl) : List Int := bif rowOkM l vs then rowT (uM vs.length) vs else []
theorem rowB_cons (v : Vl) (vs : List Vl) : rowB (v :: vs) = valM v.1 v.2.1 v.2.2 ++ rowB vs := by unfold rowB; rw [List.flatMap_cons]
theorem rowT_cons (st : List Int) (v : Vl) (vs : List Vl) : rowT st (v :: vs) = rowT (st ++ valM v.1 v.2.1 v.2.2) vs := by
 unfold rowT; rw [rowB_cons, ← List.append_assoc]
theorem zip_mem : ∀ {l : List Pt} {vs : List Vl} {v : Vl}, vs.length ≤ l.length → v ∈ vs → ∃ p, (p, v) ∈ l.zip vs
 | [], v' :: vs, v, h, hv => by simp at h
 | p :: l, v' :: vs, v, h, hv => by
  rw [List.zip_cons_cons]
  rcases List.mem_cons.1 hv with e | hv
  ·exact ⟨p, by rw [e]; exact List.mem_cons_self⟩
  ·obtain ⟨q, hq⟩ := zip_mem (l := l) (by simpa using h) hv
   exact ⟨q, List.mem_cons_of_mem _ hq⟩
theorem rowOk_of {l : List Pt} {vs : List Vl} (h : rowOkM l vs = true) : (∀ p ∈ l, partOkM p.1 p.2.1 = true) ∧ l.length ≤ 6 ∧ vs.length = l.length ∧ (∀ x ∈ l.zip vs, fitP x.1 x.2 = true) ∧ ∀ v ∈ vs, v.2.2.size ≤ 30 := by
 unfold rowOkM at h
 rw [Bool.and_eq_true, Bool.and_eq_true, decide_eq_true_eq] at h
 have a := planOk_of h.1
 have b := fitsAll_of h.2.2
 refine ⟨a.1, a.2, by omega, b.2, fun v hv => ?_⟩
 obtain ⟨p, hp⟩ := zip_mem b.1 hv
 exact (valOk_size (fitP_of (b.2 _ hp)).1).1
theorem impl_EncodeRow.sp {d : Nat} (hd : 6 ≤ d) {l : List Pt} {vs : List Vl} (hl : l.length ≤ 140737488351232) (hv : vs.length ≤ 140737488351232) : impl_EncodeRow.f d (l, vs) = some (encR l vs) := by
 obtain ⟨d, rfl, _⟩ := dep hd
 rw [impl_EncodeRow.t_eq]
 dsimp only [impl_EncodeRow.m]
 unfold encR
 refine Tells.eq (tc (impl_RowOk.sp (by omega) hl hv) ?_)
 cases ok : rowOkM l vs with
 | false => exact tt rfl (tl rfl)
 | true =>
 obtain ⟨_, l6, vl, _, sz⟩ := rowOk_of ok
 refine tf rfl (tc (impl_addU.sp (by omega) (by simp)) ?_)
 rw [List.nil_append]
 have ul := uM_len (vs.length : Int)
 show Tells _ (· = rowT (uM (vs.length : Int)) (vs.drop 0))
 refine loop0 (σ := List Int) (impl_EncodeRow.S0 d) vs.length (fun st i => (vs, (vs.length : Int), i, st)) (fun st i => st.length ≤ 3 + 41 * i ∧ ∀ b ∈ st, 0 ≤ b ∧ b ≤ 255) (fun st i r => r = rowT st (vs.drop i)) _ (by omega) ⟨by omega, uM_bytes _⟩ (fun L st h => ?_) fun L st i h hi ih => ?_
 ·dsimp only [impl_EncodeRow.S0, impl_EncodeRow.s0]
  refine tn (by omega) (tc (impl_addSum.sp (by omega) (by omega) h.2) (tl ?_))
  rw [List.drop_length]; unfold rowT rowB; rw [List.flatMap_nil, List.append_nil]
 ·dsimp only [impl_EncodeRow.S0, impl_EncodeRow.s0]
  have s1 := sz _ (List.getElem_mem hi)
  have vn := valM_len vs[i].1 vs[i].2.1 vs[i].2.2
  have u1 := uM_len vs[i].1
  have go : ∀ Y, Y = st ++ valM vs[i].1 vs[i].2.1 vs[i].2.2 → Tells (L (vs, (vs.length : Int), ((i + 1 : Nat) : Int), Y)) (· = rowT (st ++ valM vs[i].1 vs[i].2.1 vs[i].2.2) (vs.drop (i + 1))) := fun Y e => by
   subst e
   exact ih _ ⟨by rw [List.length_append]; omega, app_bytes h.2 (valM_bytes _ _ _)⟩
  refine tp (by omega) (ti hi ?_)
  rw [getD_in hi, wrap_succ (by omega), drop_at hi, rowT_cons]
  refine tc (impl_addU.sp (by omega) (by omega)) ?_
  refine teq (fun c => teq (fun _ => ?_) fun n => absurd c n) fun c1 => teq (fun c => ?_) fun c2 => teq (fun c => ?_) fun c3 => teq (fun c => ?_) fun c4 => ?_
  ·exact tc (impl_addVar.sp (by omega) (by rw [List.length_append]; omega)) (go _ (by unfold valM; rw [if_pos (.inl c), List.append_assoc]))
  ·exact tc (impl_addVar.sp (by omega) (by rw [List.length_append]; omega)) (go _ (by unfold valM; rw [if_pos (.inr c), List.append_assoc]))
  ·exact tc (impl_addText.sp (by omega) (by rw [List.length_append]; omega) (by omega)) (go _ (by unfold valM; rw [if_neg (by omega), if_pos c, List.append_assoc]))
  ·exact tp (by rw [List.length_append, List.length_singleton]; omega) (go _ (by unfold valM; rw [if_neg (by omega), if_neg c3, if_pos c, List.append_assoc, IntKind.wrap_u8]))
  ·exact go _ (by unfold valM; rw [if_neg (by omega), if_neg c3, if_neg c4, List.append_nil])
theorem spec_EncodeRow.sp {d : Nat} (hd : 6 ≤ d) {l : List Pt} {vs : List Vl} (hl : l.length ≤ 140737488351232) (hv : vs.length ≤ 140737488351232) : spec_EncodeRow.f d (l, vs) = some (encR l vs) := by
 obtain ⟨d, rfl, _⟩ := dep hd
 rw [spec_EncodeRow.t_eq]
 dsimp only [spec_EncodeRow.m]
 unfold encR
 refine Tells.eq (tc (spec_RowOk.sp (by omega) hl hv) ?_)
 cases ok : rowOkM l vs with
 | false => exact tt rfl (tl rfl)
 | true =>
 obtain ⟨_, l6, vl, _, sz⟩ := rowOk_of ok
 refine tf rfl (tc (spec_PutU.sp (by omega) (by simp)) ?_)
 rw [List.nil_append]
 have ul := uM_len (vs.length : Int)
 show Tells _ (· = rowT (uM (vs.length : Int)) (vs.drop 0))
 refine loop0 (σ := List Int) (spec_EncodeRow.S0 d) vs.length (fun st i => (vs, i, st)) (fun st i => st.length ≤ 3 + 41 * i ∧ ∀ b ∈ st, 0 ≤ b ∧ b ≤ 255) (fun st i r => r = rowT st (vs.drop i)) _ (by omega) ⟨by omega, uM_bytes _⟩ (fun L st h => ?_) fun L st i h hi ih => ?_
 ·dsimp only [spec_EncodeRow.S0, spec_EncodeRow.s0]
  refine tn (by omega) (tc (spec_PutSum.sp (by omega) (by omega) h.2) (tl ?_))
  rw [List.drop_length]; unfold rowT rowB; rw [List.flatMap_nil, List.append_nil]
 ·dsimp only [spec_EncodeRow.S0, spec_EncodeRow.s0]
  have s1 := sz _ (List.getElem_mem hi)
  have vn := valM_len vs[i].1 vs[i].2.1 vs[i].2.2
  have u1 := uM_len vs[i].1
  have go : ∀ Y, Y = st ++ valM vs[i].1 vs[i].2.1 vs[i].2.2 → Tells (L (vs, ((i + 1 : Nat) : Int), Y)) (· = rowT (st ++ valM vs[i].1 vs[i].2.1 vs[i].2.2) (vs.drop (i + 1))) := fun Y e => by
   subst e
   exact ih _ ⟨by rw [List.length_append]; omega, app_bytes h.2 (valM_bytes _ _ _)⟩
  refine tp (by omega) (ti hi ?_)
  rw [getD_in hi, wrap_succ (by omega), drop_at hi, rowT_cons]
  refine tc (spec_PutU.sp (by omega) (by omega)) ?_
  refine teq (fun c => teq (fun _ => ?_) fun n => absurd c n) fun c1 => teq (fun c => ?_) fun c2 => teq (fun c => ?_) fun c3 => teq (fun c => ?_) fun c4 => ?_
  ·exact tc (spec_PutVar.sp (by omega) (by rw [List.length_append]; omega)) (go _ (by unfold valM; rw [if_pos (.inl c), List.append_assoc]))
  ·exact tc (spec_PutVar.sp (by omega) (by rw [List.length_append]; omega)) (go _ (by unfold valM; rw [if_pos (.inr c), List.append_assoc]))
  ·exact tc (spec_PutText.sp (by omega) (by rw [List.length_append]; omega) (by omega)) (go _ (by unfold valM; rw [if_neg (by omega), if_pos c, List.append_assoc]))
  ·exact tp (by rw [List.length_append, List.length_singleton]; omega) (go _ (by unfold valM; rw [if_neg (by omega), if_neg c3, if_pos c, List.append_assoc, IntKind.wrap_u8]))
  ·exact go _ (by unfold valM; rw [if_neg (by omega), if_neg c3, if_neg c4, List.append_nil])
def longR (f : Int → Nat) (e : Bool) : Nat → Int → Bool
 | 0, _ => e
 | k + 1, i => bif decide ((f i : Int) > 48) then true else longR f e k (i + 1)
theorem longR_none {f : Int → Nat} (h : ∀ i, f i = 0) : ∀ k i, longR f false k i = false
 | 0, _ => rfl
 | k + 1, i => by rw [longR, h, decide_eq_false (by omega), cond_false, longR_none h]
def lastM (s : List Df) (t : Int) (row : List Vl) : Bool := decide (((encR (planR (defAt s t)) row).length : Int) > 60)
def longM (s : List Df) (t : Int) (row : List Vl) : Bool := bif thereM s t (-1) then longR (fun i => (keyM s t i row).length) (lastM s t row) ((defAt s t).2.2.2.length + 1) (-1) else false
theorem there_at {s : List Df} {t i : Int} (h : thereM s t (-1) = true) (h0 : -1 ≤ i) (h1 : i < (defAt s t).2.2.2.length) : thereM s t i = true := by
 have q := there_iff.1 h
 exact there_iff.2 ⟨q.1, q.2.1, h0, h1⟩
theorem impl_LongKey.sp {d : Nat} (hd : 11 ≤ d) {s : List Df} (hl : s.length ≤ 140737488351232) (hx : ∀ x ∈ s, dfFit 140737488351232 x) (t : Int) {row : List Vl} (hr : row.length ≤ 140737488351232) : impl_LongKey.f d (s, t, row) = some (longM s t row) := by
 obtain ⟨d, rfl, _⟩ := dep hd
 rw [impl_LongKey.t_eq]
 dsimp only [impl_LongKey.m]
 unfold longM
 refine Tells.eq (tc (impl_hasIndex.sp (by omega) hl hx t (-1)) ?_)
 cases th : thereM s t (-1) with
 | false => exact tt rfl (tl rfl)
 | true =>
 have q := there_iff.1 th
 have m := hx _ (defAt_mem q.2.1.1 q.2.1.2)
 have xl := m.2.2.2.1
 have rl := planR_len (defAt s t)
 refine tf rfl ?_
 suffices g : Tells (iter (impl_LongKey.S0 d) rnds (s, t, row, ((0 : Int) - 1))) (· = longR (fun i => (keyM s t i row).length) (lastM s t row) ((defAt s t).2.2.2.length + 1 - 0) (((0 : Nat) : Int) - 1)) from g
 refine loopE (impl_LongKey.S0 d) ((defAt s t).2.2.2.length + 1) (fun i => (s, t, row, i - 1)) (fun j r => r = longR (fun i => (keyM s t i row).length) (lastM s t row) ((defAt s t).2.2.2.length + 1 - j) ((j : Int) - 1)) (by omega) (fun L => ?_) fun L j hj ih => ?_
 ·dsimp only [impl_LongKey.S0, impl_LongKey.s0]
  refine tand q.2.1.1 q.2.1.2 (tn (show ¬ ((((defAt s t).2.2.2.length + 1 : Nat) : Int) - 1 < ((defAt s t).2.2.2.length : Int)) by omega) (tand q.2.1.1 q.2.1.2 (tc (impl_RowPlan.sp (x := defAt s t) (by omega) m) (tc (impl_EncodeRow.sp (by omega) (by omega) hr) (tl ?_)))))
  rw [Nat.sub_self]; rfl
 ·dsimp only [impl_LongKey.S0, impl_LongKey.s0]
  have e : (defAt s t).2.2.2.length + 1 - j = ((defAt s t).2.2.2.length + 1 - (j + 1)) + 1 := by omega
  rw [e, longR, wrap_id (by omega) (by omega)]
  refine tand q.2.1.1 q.2.1.2 (tp (show (j : Int) - 1 < ((defAt s t).2.2.2.length : Int) by omega) (tc (impl_KeyOf.sp (by omega) hl hx t _ hr) (tif (fun c => tl ?_) fun c => ?_)))
  ·rw [decide_eq_true c]; rfl
  ·rw [decide_eq_false c, cond_false]
   rw [show ((j + 1 : Nat) : Int) - 1 = (j : Int) - 1 + 1 by omega] at ih
   exact ih
theorem spec_LongKey.sp {d : Nat} (hd : 11 ≤ d) {s : List Df} (hl : s.length ≤ 140737488351232) (hx : ∀ x ∈ s, dfFit 140737488351232 x) (t : Int) {row : List Vl} (hr : row.length ≤ 140737488351232) : spec_LongKey.f d (s, t, row) = some (longM s t row) := by
 obtain ⟨d, rfl, _⟩ := dep hd
 rw [spec_LongKey.t_eq]
 dsimp only [spec_LongKey.m]
 unfold longM
 refine Tells.eq (tc (spec_l11There.sp (by omega) hl hx t (-1)) ?_)
 cases th : thereM s t (-1) with
 | false => exact tt rfl (tl rfl)
 | true =>
 have q := there_iff.1 th
 have m := hx _ (defAt_mem q.2.1.1 q.2.1.2)
 have xl := m.2.2.2.1
 have rl := planR_len (defAt s t)
 refine tf rfl (tand q.2.1.1 q.2.1.2 (tc (spec_RowPlan.sp (x := defAt s t) (by omega) m) (tc (spec_RowOk.sp (by omega) (by omega) hr) ?_)))
 cases ok : rowOkM (planR (defAt s t)) row with
 | false =>
  refine tt rfl (tl ?_)
  have e : lastM s t row = false := by unfold lastM encR; rw [ok]; rfl
  rw [e, cond_true]
  refine (longR_none (fun i => ?_) _ _).symm
  unfold keyM rowM
  rw [ok, Bool.and_false]; rfl
 | true =>
 refine tf rfl ?_
 suffices g : Tells (iter (spec_LongKey.S0 d) rnds (s, t, row, ((0 : Int) - 1))) (· = longR (fun i => (keyM s t i row).length) (lastM s t row) ((defAt s t).2.2.2.length + 1 - 0) (((0 : Nat) : Int) - 1)) from g
 refine loopE (spec_LongKey.S0 d) ((defAt s t).2.2.2.length + 1) (fun i => (s, t, row, i - 1)) (fun j r => r = longR (fun i => (keyM s t i row).length) (lastM s t row) ((defAt s t).2.2.2.length + 1 - j) ((j : Int) - 1)) (by omega) (fun L => ?_) fun L j hj ih => ?_
 ·dsimp only [spec_LongKey.S0, spec_LongKey.s0]
  refine tand q.2.1.1 q.2.1.2 (tn (show ¬ ((((defAt s t).2.2.2.length + 1 : Nat) : Int) - 1 < ((defAt s t).2.2.2.length : Int)) by omega) (tand q.2.1.1 q.2.1.2 (tc (spec_RowPlan.sp (x := defAt s t) (by omega) m) (tc (spec_EncodeRow.sp (by omega) (by omega) hr) (tl ?_)))))
  rw [Nat.sub_self]; rfl
 ·dsimp only [spec_LongKey.S0, spec_LongKey.s0]
  have e : (defAt s t).2.2.2.length + 1 - j = ((defAt s t).2.2.2.length + 1 - (j + 1)) + 1 := by omega
  have th2 : thereM s t ((j : Int) - 1) = true := there_at th (by omega) (by omega)
  have ek : keyM s t ((j : Int) - 1) row = keyR s t ((j : Int) - 1) row := by unfold keyM rowM; rw [th2, ok]; rfl
  rw [e, longR, wrap_id (by omega) (by omega), ek]
  refine tand q.2.1.1 q.2.1.2 (tp (show (j : Int) - 1 < ((defAt s t).2.2.2.length : Int) by omega) (tc (spec_l11Key.sp (by omega) hl hx th2 hr) (tif (fun c => tl ?_) fun c => ?_)))
  ·rw [decide_eq_true c]; rfl
  ·rw [decide_eq_false c, cond_false]
   rw [show ((j + 1 : Nat) : Int) - 1 = (j : Int) - 1 + 1 by omega] at ih
   exact ih
open Go Go.Proofs
def fitC (c : Col) (v : Vl) : Bool := fitsM c.2.1 c.2.2 v.1 v.2.1 (bytesOf v.2.2)
theorem fitC_of {ty : Int} {nu : Bool} {n : Int} {s : ByteArray} (h0 : ty ≠ 0) (h : valOkM ty n (bytesOf s) = true) : fitsM ty nu ty n (bytesOf s) = true := by
 unfold fitsM; rw [if_pos h, if_pos rfl, if_neg h0]
theorem short_text {s : ByteArray} (h : s ∈ [(⟨#[]⟩ : ByteArray), (⟨#[97]⟩ : ByteArray), (⟨#[98]⟩ : ByteArray), (⟨#[97, 98]⟩ : ByteArray), (⟨#[0]⟩ : ByteArray)]) : s.size ≤ 30 := by
 simp only [List.mem_cons, List.not_mem_nil, or_false] at h
 rcases h with rfl | rfl | rfl | rfl | rfl <;> decide
theorem spec_l11Short.val {d : Nat} (hd : 3 ≤ d) {b : List Int} {p x : Int} (hc : cur b p) {c : Col} (ht : inB c.2.1 1 4 = true) :
  Tells (bif c.2.1 == 3 then Option.bind (spec_l1Str.f d (b, p, x, [(⟨#[]⟩ : ByteArray), (⟨#[97]⟩ : ByteArray), (⟨#[98]⟩ : ByteArray), (⟨#[97, 98]⟩ : ByteArray), (⟨#[0]⟩ : ByteArray)])) (fun r => some (c.2.1, (0 : Int), r.1, r.2.1, r.2.2)) else bif c.2.1 == 4 then Option.bind (spec_l1Below.f d (b, p, x, (2 : Int))) (fun r => some (c.2.1, r.1, ByteArray.empty, r.2.1, r.2.2)) else Option.bind (spec_l1Int.f d (b, p, x, [(0 : Int), 1, 2, 3, 4, 5, -1])) (fun r => some (c.2.1, r.1, ByteArray.empty, r.2.1, r.2.2)))
   (fun r : Int × Int × ByteArray × Int × Int => fitC c (r.1, r.2.1, r.2.2.1) = true ∧ cur b r.2.2.2.1) := by
 have t := inB_iff.1 ht
 refine teq (fun e => ?_) fun e3 => teq (fun e => ?_) fun e4 => ?_
 ·refine tb (spec_l1Str.sp hd hc (by decide)) fun r hr => tl ⟨fitC_of (by omega) ?_, hr.2⟩
  have := short_text hr.1
  have z := bytesOf_length r.1
  show valOkM c.2.1 0 (bytesOf r.1) = true
  unfold valOkM
  rw [e, if_neg (by decide), if_neg (by decide), if_neg (by decide), if_pos rfl, if_pos rfl, decide_eq_true (by omega)]
 ·refine tb (spec_l1Below.sp (by omega) hc) fun r hr => tl ⟨fitC_of (by omega) ?_, hr.2.2⟩
  have := hr.2.1 (by decide)
  show valOkM c.2.1 r.1 [] = true
  unfold valOkM
  rw [e, if_neg (by decide), if_neg (by decide), if_neg (by decide), if_neg (by decide), if_pos rfl, if_pos (inB_iff.2 ⟨hr.1, by omega⟩)]; rfl
 ·refine tb (spec_l1Int.sp hd hc (by decide)) fun r hr => tl ⟨fitC_of (by omega) ?_, hr.2⟩
  have h : -1 ≤ r.1 ∧ r.1 ≤ 5 := by
   have := hr.1
   simp only [List.mem_cons, List.not_mem_nil, or_false] at this
   omega
  show valOkM c.2.1 r.1 [] = true
  unfold valOkM
  by_cases e1 : c.2.1 = 1
  ·rw [if_neg (by omega), if_pos e1, if_pos (inB_iff.2 ⟨by omega, by omega⟩)]; rfl
  ·rw [if_neg (by omega), if_neg e1, if_pos (by omega), if_pos (inB_iff.2 ⟨by omega, by omega⟩)]; rfl
theorem spec_l11Short.sp {d : Nat} (hd : 4 ≤ d) {b : List Int} {p x : Int} (hc : cur b p) {c : Col} (ht : inB c.2.1 1 4 = true) : Tells (spec_l11Short.f d (b, p, x, c.1, c.2.1, c.2.2)) (fun r => fitC c (r.1, r.2.1, r.2.2.1) = true ∧ cur b r.2.2.2.1) := by
 obtain ⟨d, rfl, _⟩ := dep hd
 rw [spec_l11Short.t_eq]
 dsimp only [spec_l11Short.m]
 refine tbif (fun nu => tb (spec_l1Once.sp (by omega) hc) fun r hr => tbif (fun _ => tl ⟨?_, hr⟩) fun _ => spec_l11Short.val (by omega) hr ht) fun _ => spec_l11Short.val (by omega) hc ht
 show fitsM c.2.1 c.2.2 0 0 [] = true
 unfold fitsM
 have t := inB_iff.1 ht
 rw [nu, if_pos (by decide), if_neg (by omega), if_pos rfl]
theorem spec_l11Row.sp {d : Nat} (hd : 5 ≤ d) {b : List Int} {p x : Int} (hc : cur b p) {y : Df} (hl : y.2.1.length ≤ 1000) (ht : ∀ c ∈ y.2.1, inB c.2.1 1 4 = true) :
  Tells (spec_l11Row.f d (b, p, x, y.1, y.2.1, y.2.2.1, y.2.2.2)) (fun r => (r.1.length = y.2.1.length ∧ ∀ q ∈ y.2.1.zip r.1, fitC q.1 q.2 = true) ∧ cur b r.2.1) := by
 obtain ⟨d, rfl, _⟩ := dep hd
 rw [spec_l11Row.t_eq]
 dsimp only [spec_l11Row.m]
 refine Tells.mono (P := fun r => ∃ ws : List Vl, r.1 = [] ++ ws ∧ ws.length = (y.2.1.drop 0).length ∧ (∀ q ∈ (y.2.1.drop 0).zip ws, fitC q.1 q.2 = true) ∧ cur b r.2.1) ?_ fun r ⟨ws, e, h1, h2, h3⟩ => ?_
 ·refine loop0 (σ := (Int × Int) × List Vl) (spec_l11Row.S0 d) y.2.1.length (fun st i => (i, b, st.1.1, st.1.2, y.1, y.2.1, y.2.2.1, y.2.2.2, st.2)) (fun st i => cur b st.1.1 ∧ st.2.length ≤ i) (fun st i r => ∃ ws : List Vl, r.1 = st.2 ++ ws ∧ ws.length = (y.2.1.drop i).length ∧ (∀ q ∈ (y.2.1.drop i).zip ws, fitC q.1 q.2 = true) ∧ cur b r.2.1) ((p, x), []) (by omega) ⟨hc, by simp⟩ (fun L st h => ?_) fun L st i h hi ih => ?_
  ·dsimp only [spec_l11Row.S0, spec_l11Row.s0]
   refine tn (by omega) (tl ⟨[], by rw [List.append_nil], by rw [List.drop_length]; rfl, fun q hq => ?_, h.1⟩)
   rw [List.zip_nil_right] at hq
   cases hq
  ·dsimp only [spec_l11Row.S0, spec_l11Row.s0]
   refine tp (by omega) (ti hi ?_)
   rw [getD_in hi, wrap_succ (by omega)]
   refine tb (spec_l11Short.sp (by omega) h.1 (ht _ (List.getElem_mem hi))) fun r hr => tp (by simp only [List.length_singleton]; omega) ?_
   refine (ih ((r.2.2.2.1, r.2.2.2.2), st.2 ++ [(r.1, r.2.1, r.2.2.1)]) ⟨hr.2, by simp only [List.length_append, List.length_singleton]; omega⟩).mono fun z ⟨ws, e, h1, h2, h3⟩ => ⟨(r.1, r.2.1, r.2.2.1) :: ws, by rw [e]; simp, ?_, fun q hq => ?_, h3⟩
   ·rw [drop_at hi, List.length_cons, List.length_cons, h1]
   ·rw [drop_at hi, List.zip_cons_cons] at hq
    rcases List.mem_cons.1 hq with e | hq
    ·rw [e]; exact hr.1
    ·exact h2 q hq
 ·rw [List.drop_zero] at h1 h2
  rw [List.nil_append] at e
  rw [← e] at h1 h2
  exact ⟨⟨h1, h2⟩, h3⟩
theorem drawn.cols {name : ByteArray} {x : Df} (h : drawn name x) : 2 ≤ x.2.1.length ∧ x.2.1.length ≤ 4 ∧ ∀ c ∈ x.2.1, inB c.2.1 1 4 = true := by
 obtain ⟨_, ⟨k, h2, h4, hk⟩, _⟩ := h
 have := colsD_len hk h4
 exact ⟨by omega, by omega, hk.2.1⟩
open Go Go.Proofs
theorem less_lt : ∀ x y : List UInt8, Op.bytesLess x y = ltL (x.map fun b => (b.toNat : Int)) (y.map fun b => (b.toNat : Int))
 | [], [] => rfl
 | [], _ :: _ => rfl
 | _ :: _, [] => rfl
 | a :: x, b :: y => by
  rw [Op.bytesLess, List.map_cons, List.map_cons, ltL, less_lt x y]
  by_cases e : a = b
  ·rw [e, if_pos rfl]; simp
  ·have e2 : ¬ (a.toNat : Int) = (b.toNat : Int) := fun h => e (UInt8.toNat_inj.1 (by omega))
   rw [if_neg e2, show (a == b) = false by simpa using e, Bool.false_and, Bool.or_false]
   rw [decide_eq_decide, UInt8.lt_iff_toNat_lt]
   omega
theorem less_bytes (x y : ByteArray) : Op.bytesLess x.toList y.toList = ltL (bytesOf x) (bytesOf y) := by
 rw [less_lt, toList_bytes, toList_bytes]
theorem impl_LessVal.sp {d : Nat} (hd : 1 ≤ d) (u v : Vl) : impl_LessVal.f d (u.1, u.2.1, u.2.2, v.1, v.2.1, v.2.2) = some (lessV u v) := by
 obtain ⟨d, rfl, _⟩ := dep hd
 rw [impl_LessVal.t_eq]
 dsimp only [impl_LessVal.m]
 unfold lessV
 refine Tells.eq (tneq (fun c => tl (by rw [if_neg c])) fun c => tneq (fun c2 => tl (by rw [if_pos c, if_neg c2])) fun c2 => tl ?_)
 rw [if_pos c, if_pos c2, less_bytes]
theorem impl_LessPart.sp {d : Nat} (hd : 2 ≤ d) (p : Pt) (u v : Vl) : impl_LessPart.f d (p.1, p.2.1, p.2.2.1, p.2.2.2, u.1, u.2.1, u.2.2, v.1, v.2.1, v.2.2) = some (lessP p u v) := by
 obtain ⟨d, rfl, _⟩ := dep hd
 rw [impl_LessPart.t_eq]
 dsimp only [impl_LessPart.m]
 unfold lessP
 refine Tells.eq ?_
 cases p.2.2.2
 ·exact tf rfl (tc (impl_LessVal.sp (by omega) u v) (tl rfl))
 ·exact tt rfl (tc (impl_LessVal.sp (by omega) v u) (tl rfl))
theorem same_v (u v : Vl) : (!(u.1 == v.1 && (u.2.1 == v.2.1 && u.2.2.toList == v.2.2.toList))) = decide (u ≠ v) := by
 rw [Bool.eq_iff_iff, decide_eq_true_eq]
 by_cases e : u = v
 ·rw [e]; simp
 ·refine ⟨fun _ => e, fun _ => ?_⟩
  rw [Bool.not_eq_true', ← Bool.not_eq_true]
  intro h
  simp only [Bool.and_eq_true, beq_iff_eq] at h
  exact e (vl_ext h.1 h.2.1 (bytesOf_inj.2 h.2.2))
theorem impl_LessKey.sp {d : Nat} (hd : 3 ≤ d) {l : List Pt} {us vs : List Vl} (hl : l.length ≤ 1000) (hu : us.length = l.length) (hv : vs.length = l.length) : impl_LessKey.f d (l, us, vs) = some (lessK l us vs) := by
 obtain ⟨d, rfl, _⟩ := dep hd
 rw [impl_LessKey.t_eq]
 dsimp only [impl_LessKey.m]
 refine Tells.eq ?_
 show Tells _ (· = lessK (l.drop 0) (us.drop 0) (vs.drop 0))
 refine loopE (impl_LessKey.S0 d) l.length (fun i => (l, us, vs, i)) (fun i r => r = lessK (l.drop i) (us.drop i) (vs.drop i)) (by omega) (fun L => ?_) fun L i hi ih => ?_
 ·dsimp only [impl_LessKey.S0, impl_LessKey.s0]
  refine tn (by omega) (tl ?_)
  rw [List.drop_length, decide_eq_false (by omega)]; rfl
 ·dsimp only [impl_LessKey.S0, impl_LessKey.s0]
  have h1 : i < us.length := by omega
  have h2 : i < vs.length := by omega
  rw [getD_in hi, getD_in h1, getD_in h2, wrap_succ (by omega), drop_at hi, drop_at h1, drop_at h2, lessK]
  refine tp (by omega) (tp (by omega) (ti h1 (ti h2 ?_)))
  rw [same_v]
  refine tif (fun c => tp (by omega) (ti hi (ti h1 (ti h2 (tc (impl_LessPart.sp (by omega) l[i] us[i] vs[i]) (tl ?_)))))) fun c => ih.mono fun r hr => ?_
  ·rw [if_neg c]
  ·rw [hr, if_pos (Decidable.of_not_not c)]
theorem impl_SameRow.sp {d : Nat} (hd : 1 ≤ d) {a b : List Vl} (ha : a.length ≤ 140737488351232) : impl_SameRow.f d (a, b) = some (decide (a = b)) := by
 obtain ⟨d, rfl, _⟩ := dep hd
 rw [impl_SameRow.t_eq]
 refine Tells.eq ?_
 dsimp only [impl_SameRow.m]
 refine tneq (fun h => tl ?_) fun h => ?_
 ·rw [decide_eq_false]; rintro rfl; exact h rfl
 have hl : a.length = b.length := by omega
 have := loopE (impl_SameRow.S0 d) a.length (fun i => (a, b, (a.length : Int), i)) (fun i r => r = decide (a.drop i = b.drop i)) (by omega) (fun L => ?_) fun L i hi ih => ?_
 ·simpa using this
 ·dsimp only [impl_SameRow.S0, impl_SameRow.s0]
  refine tn (by omega) (tl ?_)
  rw [List.drop_length, hl, List.drop_length]; rfl
 ·dsimp only [impl_SameRow.S0, impl_SameRow.s0]
  have hib : i < b.length := by omega
  rw [drop_at hi, drop_at hib, getD_in hi, getD_in hib, wrap_succ (by omega)]
  refine tp (by omega) (ti hi (ti hib ?_))
  rw [same_v]
  refine tif (fun c => tl ?_) fun c => ih.mono fun r hr => ?_
  ·rw [decide_eq_false]
   intro e
   rw [List.cons.injEq] at e
   exact c e.1
  ·have c' : a[i] = b[i] := Decidable.of_not_not c
   rw [hr, c', Bool.eq_iff_iff, decide_eq_true_iff, decide_eq_true_iff, List.cons.injEq]
   exact ⟨fun h => ⟨rfl, h⟩, fun h => h.2⟩
theorem impl_Before.sp {d : Nat} (hd : 1 ≤ d) {a b : List Int} (ha : ∀ x ∈ a, 0 ≤ x ∧ x ≤ 255) (hb : ∀ x ∈ b, 0 ≤ x ∧ x ≤ 255) : impl_Before.f d (a, b) = some (ltL a b) := by
 obtain ⟨d, rfl, _⟩ := dep hd
 rw [impl_Before.t_eq]
 dsimp only [impl_Before.m]
 rw [less_bytes]
 have e1 : bytesOf (numsStr a) = a := bytesOf_strOf a ha
 have e2 : bytesOf (numsStr b) = b := bytesOf_strOf b hb
 rw [e1, e2]
theorem keyB_bytes : ∀ (l : List Pt) (vs : List Vl), (∀ x ∈ l.zip vs, fitP x.1 x.2 = true) → ∀ b ∈ keyB l vs, 0 ≤ b ∧ b ≤ 255
 | [], _, _, b, hb => by simp [keyB] at hb
 | _ :: _, [], _, b, hb => by simp [keyB] at hb
 | p :: l, v :: vs, h, b, hb => by
  rw [List.zip_cons_cons] at h
  have f : fitP p v = true := h (p, v) List.mem_cons_self
  rw [keyB] at hb
  rcases List.mem_append.1 hb with hb | hb
  ·rw [partB_raw] at hb
   exact flipIf_bytes _ (rawB_ok f).1 b hb
  ·exact keyB_bytes l vs (fun x hx => h x (List.mem_cons_of_mem _ hx)) b hb
theorem nmT_free : freeM nmT = true := by kernel_rfl
theorem nmU_free : freeM nmU = true := by kernel_rfl
theorem drawnL.first {l : List Df} (h : drawnL l) : firstM l = -1 ∧ ∀ x ∈ l, goodM x ∧ (∀ c ∈ x.2.1, inB c.2.1 1 4 = true) ∧ x.2.1.length ≤ 4 := by
 obtain ⟨x, hx, e⟩ := h
 have gx := hx.good nmT_free
 have cx := checkM_iff.2 gx
 have px := hx.cols
 rcases e with rfl | ⟨y, hy, rfl⟩
 ·refine ⟨?_, fun z hz => by rw [List.mem_singleton.1 hz]; exact ⟨gx, px.2.2, px.2.1⟩⟩
  unfold firstM
  rw [firstR, cx]; rfl
 ·have gy := hy.good nmU_free
  have cy := checkM_iff.2 gy
  have py := hy.cols
  refine ⟨?_, fun z hz => ?_⟩
  ·unfold firstM
   rw [firstR, cx, firstR, cy]
   have e : isT x.1 y.1 = false := by rw [hx.1, hy.1]; kernel_rfl
   simp [e, firstR]
  ·rcases List.mem_cons.1 hz with e | hz
   ·rw [e]; exact ⟨gx, px.2.2, px.2.1⟩
   ·rw [List.mem_singleton.1 hz]; exact ⟨gy, py.2.2, py.2.1⟩
def rowFit (y : Df) (a : List Vl) : Prop := a.length = y.2.1.length ∧ ∀ q ∈ y.2.1.zip a, fitC q.1 q.2 = true
theorem rowR_fits : ∀ (r : List Col) (i : Nat) (a : List Vl), (∀ q ∈ r.zip a, fitC q.1 q.2 = true) → ∀ q ∈ (rowR i r).zip a, fitP q.1 q.2 = true
 | [], _, _, _, q, hq => by simp [rowR] at hq
 | _ :: _, _, [], _, q, hq => by simp at hq
 | c :: r, i, v :: a, h, q, hq => by
  rw [List.zip_cons_cons] at h
  rw [rowR, List.zip_cons_cons] at hq
  rcases List.mem_cons.1 hq with e | hq
  ·rw [e]; exact h (c, v) List.mem_cons_self
  ·exact rowR_fits r (i + 1) a (fun x hx => h x (List.mem_cons_of_mem _ hx)) q hq
theorem planR_row {y : Df} (g : goodM y) {a : List Vl} (h : rowFit y a) : rowOkM (planR y) a = true := by
 have e : planR y = rowR 0 y.2.1 := by unfold planR; rw [decide_eq_true (checkM_iff.2 g)]; rfl
 unfold rowOkM fitsAllM
 rw [(plan_ok g).2.1, e, rowR_len, decide_eq_true (by have := h.1; omega), decide_eq_true (by have := h.1; omega), Bool.true_and, Bool.true_and, Bool.true_and, List.all_eq_true]
 exact rowR_fits y.2.1 0 a h.2
theorem planM_parts {y : Df} (g : goodM y) {i : Int} (hi : i < y.2.2.2.length) : planOkM (planM y i) = true ∧ ∀ p ∈ planM y i, ∃ q : By, p = mkPart y.2.1 q ∧ 0 ≤ q.1 ∧ q.1 < y.2.1.length := by
 have po := plan_ok g
 have gp := g.parts
 have c := checkM_iff.2 g
 have e1 : planP y = y.2.2.1.map (mkPart y.2.1) := by unfold planP; rw [decide_eq_true c]; rfl
 have mp : ∀ (ps : List By), partsM y.2.1.length ps = true → ∀ p ∈ ps.map (mkPart y.2.1), ∃ q : By, p = mkPart y.2.1 q ∧ 0 ≤ q.1 ∧ q.1 < y.2.1.length := fun ps h p hp => by
  obtain ⟨q, hq, rfl⟩ := List.mem_map.1 hp
  exact ⟨q, rfl, partsM_in h q hq⟩
 unfold planM
 by_cases n : i < 0
 ·rw [decide_eq_true n, cond_true]
  exact ⟨po.1, by rw [e1]; exact mp _ gp.1⟩
 ·rw [decide_eq_false n, cond_false]
  refine ⟨po.2.2 i, ?_⟩
  have e2 : planI y i = (ixAt y.2.2.2 i).2.2.map (mkPart y.2.1) ++ y.2.2.1.map (mkPart y.2.1) := by
   unfold planI; rw [decide_eq_true c, cond_true, show inB i 0 ((y.2.2.2.length : Int) - 1) = true from inB_iff.2 ⟨by omega, by omega⟩]; rfl
  rw [e2]
  intro p hp
  rcases List.mem_append.1 hp with h | h
  ·exact mp _ (gp.2 _ (at_mem (by omega) hi)) p h
  ·exact mp _ gp.1 p h
theorem zip_map {β γ : Type} (f : β → γ) : ∀ (l : List β) (x : β × γ), x ∈ l.zip (l.map f) → x.1 ∈ l ∧ x.2 = f x.1
 | [], x, h => by simp at h
 | p :: l, x, h => by
  rw [List.map_cons, List.zip_cons_cons] at h
  rcases List.mem_cons.1 h with e | h
  ·rw [e]; exact ⟨List.mem_cons_self, rfl⟩
  ·have := zip_map f l x h
   exact ⟨List.mem_cons_of_mem _ this.1, this.2⟩
theorem pick_fits {y : Df} {a : List Vl} (h : rowFit y a) {l : List Pt} (hl : ∀ p ∈ l, ∃ q : By, p = mkPart y.2.1 q ∧ 0 ≤ q.1 ∧ q.1 < y.2.1.length) : ∀ x ∈ l.zip (pickM l a), fitP x.1 x.2 = true := by
 intro x hx
 obtain ⟨m, e⟩ := zip_map (pickV a) l x hx
 obtain ⟨q, hq, q0, q1⟩ := hl _ m
 have al := h.1
 have qa : q.1 < a.length := by omega
 rw [e, hq]
 have ep : pickV a (mkPart y.2.1 q) = List.getD a (Int.toNat q.1) ((0 : Int), (0 : Int), ByteArray.empty) := by
  show (bif inB q.1 0 ((a.length : Int) - 1) then _ else _) = _
  rw [inB_iff.2 ⟨q0, by omega⟩]; rfl
 rw [ep]
 have i1 : q.1.toNat < y.2.1.length := by omega
 have i2 : q.1.toNat < a.length := by omega
 have e1 : List.getD a (Int.toNat q.1) ((0 : Int), (0 : Int), ByteArray.empty) = a[q.1.toNat] := by rw [List.getD_eq_getElem?_getD, List.getElem?_eq_getElem i2]; rfl
 have e2 : colAt y.2.1 q.1 = y.2.1[q.1.toNat] := by unfold colAt; rw [List.getD_eq_getElem?_getD, List.getElem?_eq_getElem i1]; rfl
 rw [e1]
 show fitC (colAt y.2.1 q.1) a[q.1.toNat] = true
 rw [e2]
 refine h.2 (y.2.1[q.1.toNat], a[q.1.toNat]) ?_
 rw [List.mem_iff_getElem]
 exact ⟨q.1.toNat, by rw [List.length_zip]; omega, by rw [List.getElem_zip]⟩
theorem key_of {s : List Df} {t i : Int} (th : thereM s t i = true) (g : goodM (defAt s t)) {a : List Vl} (h : rowFit (defAt s t) a) :
  keyM s t i a = headM s t i ++ keyB (planM (defAt s t) i) (pickM (planM (defAt s t) i) a) ∧ ∀ x ∈ (planM (defAt s t) i).zip (pickM (planM (defAt s t) i) a), fitP x.1 x.2 = true := by
 have q := there_iff.1 th
 have pp := planM_parts g q.2.2.2
 have pf := pick_fits h pp.2
 refine ⟨?_, pf⟩
 unfold keyM keyR rowM encM
 rw [th, planR_row g h, pp.1]
 have e : fitsAllM (planM (defAt s t) i) (pickM (planM (defAt s t) i) a) = true := by
  unfold fitsAllM
  rw [pickM_len, decide_eq_true (Nat.le_refl _), Bool.true_and, List.all_eq_true]
  exact pf
 rw [e]; rfl
theorem headM_two {s : List Df} {t i : Int} (th : thereM s t i = true) : (headM s t i).length = 2 ∧ ∀ b ∈ headM s t i, 0 ≤ b ∧ b ≤ 255 := by
 unfold headM
 rw [th]
 refine ⟨rfl, fun b hb => ?_⟩
 simp only [cond_true, List.mem_cons, List.not_mem_nil, or_false] at hb
 rcases hb with rfl | rfl
 ·exact u8_bd _
 ·exact u8_bd _
theorem keys_cmp {s : List Df} {t i : Int} (th : thereM s t i = true) (g : goodM (defAt s t)) {a b : List Vl} (ha : rowFit (defAt s t) a) (hb : rowFit (defAt s t) b) :
  ltL (keyM s t i a) (keyM s t i b) = lessK (planM (defAt s t) i) (pickM (planM (defAt s t) i) a) (pickM (planM (defAt s t) i) b) ∧ (keyM s t i a = keyM s t i b ↔ pickM (planM (defAt s t) i) a = pickM (planM (defAt s t) i) b) := by
 obtain ⟨ea, fa⟩ := key_of th g ha
 obtain ⟨eb, fb⟩ := key_of th g hb
 rw [ea, eb, ltL_pre, List.append_cancel_left_eq]
 rcases keyB_cmp (planM (defAt s t) i) _ _ (pickM_len _ a) (pickM_len _ b) fa fb with ⟨e, h⟩ | ⟨e, h, k⟩ | ⟨e, h, k⟩
 ·rw [h, e]; exact ⟨ltL_self _, fun _ => rfl, fun _ => rfl⟩
 ·rw [h]; exact ⟨k.lt, fun e' => absurd e' k.ne, fun e' => absurd e' e⟩
 ·rw [h]; exact ⟨k.gt, fun e' => absurd e'.symm k.ne, fun e' => absurd e' e⟩
theorem pick_less {y : Df} (g : goodM y) {i : Int} (h0 : 0 ≤ i) (hi : i < y.2.2.2.length) {a b : List Vl} (e : pickM (planI y i) a = pickM (planI y i) b) : pickM (planP y) a = pickM (planP y) b := by
 have c := checkM_iff.2 g
 have e1 : planP y = y.2.2.1.map (mkPart y.2.1) := by unfold planP; rw [decide_eq_true c]; rfl
 have e2 : planI y i = (ixAt y.2.2.2 i).2.2.map (mkPart y.2.1) ++ planP y := by
  rw [e1]; unfold planI; rw [decide_eq_true c, cond_true, show inB i 0 ((y.2.2.2.length : Int) - 1) = true from inB_iff.2 ⟨by omega, by omega⟩]; rfl
 rw [e2] at e
 unfold pickM at e ⊢
 rw [List.map_append, List.map_append] at e
 exact (List.append_inj e (by simp)).2
theorem spec_DrawRows.sp {d : Nat} (hd : 7 ≤ d) {b : List Int} (hb : b.length ≤ 1048576) : Tells (spec_DrawRows.f d b) (fun r => drawnL r.1 ∧ (0 ≤ r.2.1 ∧ r.2.1 < r.1.length) ∧ rowFit (defAt r.1 r.2.1) r.2.2.1 ∧ rowFit (defAt r.1 r.2.1) r.2.2.2) := by
 obtain ⟨d, rfl, _⟩ := dep hd
 rw [spec_DrawRows.t_eq]
 dsimp only [spec_DrawRows.m]
 refine tb (spec_l1New.sp (by omega) hb) fun r1 g1 => ?_
 rw [g1.1]
 refine tb (spec_l10Draw.sp (by omega) g1.2) fun r2 g2 => tb (spec_l1Below.sp (by omega) g2.2) fun r3 g3 => ?_
 obtain ⟨t1, t2, t3⟩ := g2.1.tab
 have h0 := g3.1
 have h1 := g3.2.1 (by omega)
 have f := g2.1.first.2 _ (defAt_mem h0 h1)
 have ro := fun {p x : Int} (hc : cur b p) => spec_l11Row.sp (d := d) (x := x) (by omega) hc (y := defAt r2.1 r3.1) (by omega) f.2.1
 exact tand h0 h1 (tb (ro g3.2.2) fun r4 g4 => tand h0 h1 (tb (ro g4.2) fun r5 g5 => tl ⟨g2.1, ⟨h0, h1⟩, g4.1, g5.1⟩))
open Go Go.Proofs
theorem laws_FnRowKeys.pure {d : Nat} (hd : 12 ≤ d) {code : List Int} (h0 : okV (.row (.one (.int .u8))) code) : laws_FnRowKeys.f d code = some true := by
 obtain ⟨d, rfl, _⟩ := dep hd
 rw [laws_FnRowKeys.t_eq]
 dsimp only [laws_FnRowKeys.m]
 refine Tells.eq (tc (laws_big.sp (by omega) code) (tif (fun _ => tl rfl) fun h => ?_))
 refine tb (spec_DrawRows.sp (by omega) (by omega)) fun r hr => ?_
 obtain ⟨s, t, a, b⟩ := r
 obtain ⟨dr, ⟨t0, t1⟩, fa, fb⟩ := hr
 dsimp only at dr t0 t1 fa fb ⊢
 obtain ⟨sl, s2, sx⟩ := dr.tab
 have fit : ∀ x ∈ s, dfFit 140737488351232 x := fun x hx => (sx x hx).big (by decide)
 have hl : s.length ≤ 140737488351232 := by omega
 have ft := fit _ (defAt_mem t0 t1)
 obtain ⟨g, _, c4⟩ := dr.first.2 _ (defAt_mem t0 t1)
 have xl := g.2.2.2.1
 have al : a.length ≤ 4 := by have := fa.1; omega
 have bl : b.length ≤ 4 := by have := fb.1; omega
 have pp := impl_PrimaryPlan.sp (d := d) (by omega) ft
 have pl := planP_len (defAt s t)
 have pa := impl_Pick.sp (d := d) (l := planP (defAt s t)) (row := a) (by omega) (by omega) (by omega)
 have pb := impl_Pick.sp (d := d) (l := planP (defAt s t)) (row := b) (by omega) (by omega) (by omega)
 refine tand t0 t1 (tc pp (tc pa (tand t0 t1 (tc pp (tc pb (tc (impl_SameRow.sp (by omega) (by rw [pickM_len]; omega)) ?_))))))
 have there : ∀ i : Int, -1 ≤ i → i < (defAt s t).2.2.2.length → thereM s t i = true := fun i h1 h2 => there_iff.2 ⟨dr.first.1, ⟨t0, t1⟩, h1, h2⟩
 suffices w : Tells (iter (laws_FnRowKeys.S0 d) rnds (t, decide (pickM (planP (defAt s t)) a = pickM (planP (defAt s t)) b), ((0 : Int) - 1), s, a, b)) (· = true) from w
 refine loopE (laws_FnRowKeys.S0 d) ((defAt s t).2.2.2.length + 1) (fun i => (t, decide (pickM (planP (defAt s t)) a = pickM (planP (defAt s t)) b), i - 1, s, a, b)) (fun _ r => r = true) (by omega) (fun L => ?_) fun L j hj ih => ?_
 ·dsimp only [laws_FnRowKeys.S0, laws_FnRowKeys.s0]
  refine tand t0 t1 (tn (show ¬ ((((defAt s t).2.2.2.length + 1 : Nat) : Int) - 1 < ((defAt s t).2.2.2.length : Int)) by omega) ?_)
  exact tc (impl_LongKey.sp (by omega) hl fit t (by omega)) (tc (spec_LongKey.sp (by omega) hl fit t (by omega)) (tl (by simp)))
 ·dsimp only [laws_FnRowKeys.S0, laws_FnRowKeys.s0]
  have e0 : ((j + 1 : Nat) : Int) - 1 = (j : Int) - 1 + 1 := by omega
  rw [e0] at ih
  have i0 : -1 ≤ (j : Int) - 1 := by omega
  have i1 : (j : Int) - 1 < ((defAt s t).2.2.2.length : Int) := by omega
  generalize (j : Int) - 1 = i at i0 i1 ih ⊢
  rw [wrap_id (by omega) (by omega)]
  have th := there i i0 i1
  have cmp := keys_cmp th g fa fb
  have ka := key_of th g fa
  have kb := key_of th g fb
  have h2 := headM_two th
  have kal := keyM_len s t i a
  have kbl := keyM_len s t i b
  have ml := planM_len (defAt s t) i
  have xa := impl_KeyOf.sp (d := d) (by omega) hl fit t i (row := a) (by omega)
  have xb := impl_KeyOf.sp (d := d) (by omega) hl fit t i (row := b) (by omega)
  have xh := impl_HeadOf.sp (d := d) (by omega) hl fit t i
  have ba := laws_begins.sp (d := d) (b := headM s t i) (by omega) (a := keyM s t i a) (by omega)
  have bb := laws_begins.sp (d := d) (b := headM s t i) (by omega) (a := keyM s t i b) (by omega)
  rw [decide_eq_true (by rw [ka.1]; exact ⟨by rw [List.length_append]; omega, by rw [List.take_left]⟩)] at ba
  rw [decide_eq_true (by rw [kb.1]; exact ⟨by rw [List.length_append]; omega, by rw [List.take_left]⟩)] at bb
  have bf := impl_Before.sp (d := d) (by omega) (a := keyM s t i a) (b := keyM s t i b) (by rw [ka.1]; exact app_bytes h2.2 (keyB_bytes _ _ ka.2)) (by rw [kb.1]; exact app_bytes h2.2 (keyB_bytes _ _ kb.2))
  have ia := impl_Pick.sp (d := d) (l := planM (defAt s t) i) (row := a) (by omega) (by omega) (by omega)
  have ib := impl_Pick.sp (d := d) (l := planM (defAt s t) i) (row := b) (by omega) (by omega) (by omega)
  have lk := impl_LessKey.sp (d := d) (l := planM (defAt s t) i) (us := pickM (planM (defAt s t) i) a) (vs := pickM (planM (defAt s t) i) b) (by omega) (by omega) (pickM_len _ _) (pickM_len _ _)
  rw [← cmp.1] at lk
  have sb := laws_sameBytes.sp (d := d) (by omega) (a := keyM s t i a) (b := keyM s t i b) (by omega)
  have le : keyM s t i a = keyM s t i b → pickM (planP (defAt s t)) a = pickM (planP (defAt s t)) b := fun e => by
   have e := cmp.2.1 e
   unfold planM at e
   by_cases n : i < 0
   ·rw [decide_eq_true n] at e; exact e
   ·rw [decide_eq_false n] at e; exact pick_less g (by omega) i1 e
  have fin : Tells (bif decide (keyM s t i a = keyM s t i b) then bif !decide (pickM (planP (defAt s t)) a = pickM (planP (defAt s t)) b) then some false else L (t, decide (pickM (planP (defAt s t)) a = pickM (planP (defAt s t)) b), i + 1, s, a, b) else L (t, decide (pickM (planP (defAt s t)) a = pickM (planP (defAt s t)) b), i + 1, s, a, b)) (· = true) :=
   tif (fun c => tf (by rw [decide_eq_true (le c)]; rfl) ih) fun _ => ih
  have hn : ((headM s t i).length : Int) = 2 := by omega
  refine tand t0 t1 (tp i1 (tand t0 t1 (tc pp (tif (fun c => ?_) fun c => ?_))))
  ·have e : planM (defAt s t) i = planI (defAt s t) i := by unfold planM; rw [decide_eq_false (by omega)]; rfl
   rw [e] at ia ib lk
   refine tand t0 t1 (tc (impl_IndexPlan.sp (by omega) ft i) (tc xa (tc xb (tc xh (tneq (fun n => absurd hn n) fun _ => tc ba (tf rfl (tc bb (tf rfl (tc bf (tc ia (tc ib (tc lk (tf (by simp) ?_)))))))))))))
   exact teq (fun n => absurd n (by omega)) fun _ => tc sb fin
  ·have e : planM (defAt s t) i = planP (defAt s t) := by unfold planM; rw [decide_eq_true (by omega)]; rfl
   rw [e] at ia ib lk cmp
   refine tc xa (tc xb (tc xh (tneq (fun n => absurd hn n) fun _ => tc ba (tf rfl (tc bb (tf rfl (tc bf (tc ia (tc ib (tc lk (tf (by simp) ?_)))))))))))
   refine teq (fun _ => tc sb (tf ?_ (tc sb fin))) fun n => absurd (show i = -1 by omega) n
   rw [show decide (keyM s t i a = keyM s t i b) = decide (pickM (planP (defAt s t)) a = pickM (planP (defAt s t)) b) from decide_eq_decide.2 cmp.2]
   simp
end Go.PV.T
