import Derived.Test.YtipehkeabnfngaaDoorZDSWWords
import Derived.Test.YtipehkeabnfngaaDoorZDSWMore
import Derived.Lib.AppendStr
import Derived.Laws.Strings
namespace Go.Proofs.YtipehkeabnfngaaDoor.Xtra
open Go.RowKit Go.Proofs.YtipehkeabnfngaaDoorW.PrintWords Go.Proofs.YtipehkeabnfngaaDoorW.PrintLast
theorem less_asymm : ∀ a b : List UInt8, (Op.bytesLess a b || a == b) = !Op.bytesLess b a
  | [], [] => rfl
  | [], _ :: _ => rfl
  | _ :: _, [] => rfl
  | a :: x, b :: y => by
    have ih := less_asymm x y
    simp only [Op.bytesLess]
    rcases Nat.lt_trichotomy a.toNat b.toNat with h | h | h
    · have h1 : a < b := UInt8.lt_iff_toNat_lt.2 h
      have h2 : ¬ b < a := fun c => by have := UInt8.lt_iff_toNat_lt.1 c; omega
      have h3 : a ≠ b := fun c => by rw [c] at h; exact Nat.lt_irrefl _ h
      simp [h1, h2, Ne.symm h3]
    · have h0 : a = b := UInt8.toNat_inj.1 h
      subst h0
      have h1 : ¬ a < a := fun c => Nat.lt_irrefl _ (UInt8.lt_iff_toNat_lt.1 c)
      simpa [h1] using ih
    · have h1 : b < a := UInt8.lt_iff_toNat_lt.2 h
      have h2 : ¬ a < b := fun c => by have := UInt8.lt_iff_toNat_lt.1 c; omega
      have h3 : a ≠ b := fun c => by rw [c] at h; exact Nat.lt_irrefl _ h
      simp [h1, h2, h3]
theorem str_leq (t : TypeId) (a b : ByteArray) : binOp .leq t (.string a) (.string b) = pure (.bool (!Op.bytesLess b.toList a.toList)) := by
  rw [← less_asymm]; simp [binOp, Op.stringOp]
theorem str_gtr (t : TypeId) (a b : ByteArray) : binOp .gtr t (.string a) (.string b) = pure (.bool (Op.bytesLess b.toList a.toList)) := by
  have h := less_asymm a.toList b.toList
  simp only [binOp, Op.stringOp]
  rw [h]; simp
theorem str_geq (t : TypeId) (a b : ByteArray) : binOp .geq t (.string a) (.string b) = pure (.bool (!Op.bytesLess a.toList b.toList)) := by simp [binOp, Op.stringOp]
theorem setCell_drewN (w : World) (p : Addr) (v : Value) (n : Nat) : (w.drewN n).setCell p v = (w.setCell p v).drewN n := rfl
theorem some_set (w : World) (p : Addr) (v : Value) (h : (w.cell? p).isSome = true) : ((w.setCell p v).cell? p).isSome = true := by
  obtain ⟨u, hu⟩ := Option.isSome_iff_exists.1 h
  rw [World.cell?_setCell_same w p v hu]; rfl
theorem cell_set2 (w : World) (p : Addr) (u v : Value) (h : (w.cell? p).isSome = true) : ((w.setCell p u).setCell p v).cell? p = some v := by
  obtain ⟨z, hz⟩ := Option.isSome_iff_exists.1 (some_set w p u h)
  exact World.cell?_setCell_same _ p v hz
theorem cell_set3 (w : World) (p : Addr) (t u v : Value) (h : (w.cell? p).isSome = true) : (((w.setCell p t).setCell p u).setCell p v).cell? p = some v := cell_set2 _ p u v (some_set w p t h)
section
variable {P : Program}
end
theorem aM_ {p : Prop} (h : p) : Aside0 p := Aside0.mk h
theorem kF_ {w : World} {g : Nat} {t : TypeId} {cs : Array Value} (h : w.heap[g]? = some (.cells cs t)) (i : Nat) : w.frozen? ⟨g, i, none⟩ = false := blk_frozen h i
theorem kC_ {w : World} {g : Nat} {t : TypeId} {cs : Array Value} (h : w.heap[g]? = some (.cells cs t)) (i : Nat) : w.cell? ⟨g, i, none⟩ = cs[i]? := blk_cell h i
theorem bE_ {w W : World} {g j : Nat} {v : Value} (h : Below w.heap.size w W) (hg : w.heap.size ≤ g) : Below w.heap.size w (W.setCell ⟨g, j, none⟩ v) := below_set h hg
theorem bA_ {w W : World} (h : Below w.heap.size w W) (o : Obj) : Below w.heap.size w (W.alloc o) := below_alloc h o
theorem bN_ {B : Nat} {w W : World} (h : Below B w W) (n : Nat) : Below B w (W.drewN n) := pw_below_drewN h n
theorem bD_ {base : Nat} {w W : World} (h : Below base w W) : Below base w W.drew := below_drew1 h
theorem bS_ {w W : World} (h : Below w.heap.size w W) : w.heap.size ≤ W.heap.size := below_size h
theorem bT_ {w W w2 : World} (h : Below w.heap.size w W) (h2 : Below W.heap.size W w2) : Below w.heap.size w w2 := below_step h h2
theorem kN_ {w : World} {g : Nat} {o : Obj} (h : w.heap[g]? = some o) (n : Nat) : (w.drewN n).heap[g]? = some o := blk_drewN h n
theorem kD_ {w : World} {g : Nat} {o : Obj} (h : w.heap[g]? = some o) : w.drew.heap[g]? = some o := blk_drew h
theorem kA_ {w : World} {g : Nat} {o : Obj} (h : w.heap[g]? = some o) (o' : Obj) : (w.alloc o').heap[g]? = some o := blk_alloc h o'
theorem rA_ {α : Type} {d : Kd α} {e : Nat} {w : World} {base : Nat} {ok : Nat → Prop} {v : Value} {xs : List α} (h : Kd.R d e w base ok v xs) (o : Obj) : Kd.R d e (w.alloc o) base ok v xs := Kd.R_alloc h o
theorem rN_ {α : Type} {d : Kd α} {e : Nat} {w : World} {base : Nat} {ok : Nat → Prop} {v : Value} {xs : List α} (h : Kd.R d e w base ok v xs) (m : Nat) : Kd.R d e (w.drewN m) base ok v xs := Kd.R_drewN h m
theorem rD_ {α : Type} {d : Kd α} {e : Nat} {w : World} {base : Nat} {ok : Nat → Prop} {v : Value} {xs : List α} (h : Kd.R d e w base ok v xs) : Kd.R d e w.drew base ok v xs := Kd.R_drew h
theorem cA_ {α : Type} {d : Kd α} {w : World} {xs : List α} {A : Option Addr} {n : Nat} (h : Kd.C d w A n xs) (o : Obj) : Kd.C d (w.alloc o) A n xs := Kd.C_alloc h o
theorem cN_ {α : Type} {d : Kd α} {w : World} {xs : List α} {A : Option Addr} {n : Nat} (h : Kd.C d w A n xs) (m : Nat) : Kd.C d (w.drewN m) A n xs := Kd.C_drewN h m
theorem cD_ {α : Type} {d : Kd α} {w : World} {xs : List α} {A : Option Addr} {n : Nat} (h : Kd.C d w A n xs) : Kd.C d w.drew A n xs := Kd.C_drew h
theorem oT_ {p : Prop} [inst : Decidable p] (h : decide p = true) : p := of_decide_eq_true h
theorem wL_ (w : World) (a : Addr) {u : Value} (h : w.cell? a = some u) : a.block < w.heap.size := World.block_lt_of_cell? w a h
theorem kP_ {w : World} {g : Nat} {t : TypeId} {cs cs' : Array Value} (h : w.heap[g]? = some (.cells cs t)) (i : Nat) (u : Value) (e : cs.setIfInBounds i u = cs') : (w.setCell ⟨g, i, none⟩ u).heap[g]? = some (.cells cs' t) := blk_put h i u e
theorem oB_ {α β : Type} {b : β} {x : Option α} {f : α → Option β} (h : x.bind f = some b) : ∃ a, x = some a ∧ f a = some b := Option.bind_eq_some_iff.mp h
theorem mA_ {α β : Type} {f : α → β} {l : List α} : l.toArray.map f = (l.map f).toArray := List.map_toArray
theorem mC_ {α β : Type} {f : α → β} {a : α} {l : List α} : (a :: l).map f = f a :: l.map f := List.map_cons
theorem mN_ {α β : Type} {f : α → β} : ([] : List α).map f = [] := List.map_nil
theorem lD_ {α : Type} {i : Nat} {l : List α} : (l.drop i).length = l.length - i := List.length_drop
theorem lT_ {α : Type} {i : Nat} {l : List α} : (l.take i).length = min i l.length := List.length_take
theorem sI_ {α : Type} (l : List α) (i : Nat) (a : α) : l.toArray.setIfInBounds i a = (l.set i a).toArray := List.setIfInBounds_toArray l i a
theorem sS_ {α : Type} {x a : α} {xs : List α} {n : Nat} : (x :: xs).set (n + 1) a = x :: xs.set n a := List.set_cons_succ
theorem sZ_ {α : Type} {x a : α} {xs : List α} : (x :: xs).set 0 a = a :: xs := List.set_cons_zero
theorem nL_ {a b c : Nat} (h : a < b) (k : b ≤ c) : a < c := Nat.lt_of_lt_of_le h k
theorem nN_ {a b : Nat} (h : a < b) : a ≠ b := Nat.ne_of_lt h
/-- What comes of a world that lies above w, by taking memory, drawing, and stores above w. -/
class Bst (w W X : World) : Prop where out : Below w.heap.size w W → Below w.heap.size w X
instance (w W : World) : Bst w W W := ⟨fun h => h⟩
instance {w W X : World} [h : Bst w W X] (o : Obj) : Bst w W (X.alloc o) := ⟨fun k => below_alloc (h.out k) o⟩
instance {w W X : World} [h : Bst w W X] (n : Nat) : Bst w W (X.drewN n) := ⟨fun k => pw_below_drewN (h.out k) n⟩
instance {w W X : World} [h : Bst w W X] : Bst w W X.drew := ⟨fun k => below_drew1 (h.out k)⟩
instance {w W X : World} {g j : Nat} {v : Value} [h : Bst w W X] [n : Aside0 (w.heap.size ≤ g)] : Bst w W (X.setCell ⟨g, j, none⟩ v) := ⟨fun k => below_set (h.out k) n.out⟩
theorem bZ_ {w W X : World} (h : Aside0 (Below w.heap.size w W)) [s : Bst w W X] : Below w.heap.size w X := s.out h.out
class Kst (w W X : World) (g : Nat) (row : Option Nat) : Prop where out : KeepBut w W g row → KeepBut w X g row
instance (w W : World) (g : Nat) (row : Option Nat) : Kst w W W g row := ⟨fun h => h⟩
instance {w W X : World} {g : Nat} [h : Kst w W X g none] (o : Obj) : Kst w W (X.alloc o) g none := ⟨fun k => keep_alloc (h.out k) o⟩
instance {w W X : World} {g : Nat} {row : Option Nat} [h : Kst w W X g row] (n : Nat) : Kst w W (X.drewN n) g row := ⟨fun k => keep_drewN (h.out k) n⟩
instance {w W X : World} {g : Nat} {row : Option Nat} [h : Kst w W X g row] : Kst w W X.drew g row := ⟨fun k => keep_drew (h.out k)⟩
instance {w W X : World} {g : Nat} {row : Option Nat} {j : Nat} {u : Value} [h : Kst w W X g row] : Kst w W (X.setCell ⟨g, j, none⟩ u) g row := ⟨fun k => KeepBut.set_ (h.out k) j u⟩
instance {w W X : World} {g g' j : Nat} {row : Option Nat} {u : Value} [h : Kst w W X g row] [n : Aside0 (w.heap.size ≤ g')] : Kst w W (X.setCell ⟨g', j, none⟩ u) g row := ⟨fun k => keep_far (h.out k) n.out u⟩
theorem eZ_ {w W X : World} {g : Nat} {row : Option Nat} (h : Aside0 (KeepBut w W g row)) [s : Kst w W X g row] : KeepBut w X g row := s.out h.out
/-- Of one world another comes by taking memory and drawing alone. -/
class Stp (w W : World) : Prop where out : Below w.heap.size w W
instance (w : World) : Stp w w := ⟨Below.refl _ _⟩
instance {w W : World} [h : Stp w W] (o : Obj) : Stp w (W.alloc o) := ⟨below_alloc h.out o⟩
instance {w W : World} [h : Stp w W] (n : Nat) : Stp w (W.drewN n) := ⟨pw_below_drewN h.out n⟩
instance {w W : World} [h : Stp w W] : Stp w W.drew := ⟨below_drew h.out⟩
theorem rZ_ {α : Type} {d : Kd α} {e : Nat} {w W : World} {base : Nat} {ok : Nat → Prop} {v : Value} {xs : List α} (h : Aside0 (Kd.R d e w base ok v xs)) [s : Stp w W] : Kd.R d e W base ok v xs := Kd.R_below h.out s.out
theorem kZ_ {w W : World} {g : Nat} {o : Obj} (h : Aside0 (w.heap[g]? = some o)) [s : Stp w W] : W.heap[g]? = some o := blk_below h.out s.out
/-- .. and by stores into other cells than g's. -/
class Fst (g : Nat) (w W : World) : Prop where out : ∀ (cs : Array Value) (t : TypeId), w.heap[g]? = some (.cells cs t (0, 0)) → W.heap[g]? = some (.cells cs t (0, 0))
instance (g : Nat) (w : World) : Fst g w w := ⟨fun _ _ h => h⟩
instance {g : Nat} {w W : World} [h : Fst g w W] (o : Obj) : Fst g w (W.alloc o) := ⟨fun cs t k => blk_alloc (h.out cs t k) o⟩
instance {g : Nat} {w W : World} [h : Fst g w W] (n : Nat) : Fst g w (W.drewN n) := ⟨fun cs t k => blk_drewN (h.out cs t k) n⟩
instance {g : Nat} {w W : World} [h : Fst g w W] : Fst g w W.drew := ⟨fun cs t k => blk_drew (h.out cs t k)⟩
instance {g g' j : Nat} {w W : World} {u : Value} [h : Fst g w W] [n : Aside0 (g ≠ g')] : Fst g w (W.setCell ⟨g', j, none⟩ u) := ⟨fun cs t k => blk_far (h.out cs t k) n.out u⟩
theorem kW_ {w W : World} {g : Nat} {t : TypeId} {cs : Array Value} (h : Aside0 (w.heap[g]? = some (.cells cs t (0, 0)))) [s : Fst g w W] : W.heap[g]? = some (.cells cs t (0, 0)) := s.out cs t h.out
/-- .. at least one such step: the world before it is told. -/
class Fsr (g : Nat) (W : World) (w : outParam World) : Prop where out : ∀ (cs : Array Value) (t : TypeId), w.heap[g]? = some (.cells cs t (0, 0)) → W.heap[g]? = some (.cells cs t (0, 0))
class Fs1 (g : Nat) (W : World) (w : outParam World) : Prop where out : ∀ (cs : Array Value) (t : TypeId), w.heap[g]? = some (.cells cs t (0, 0)) → W.heap[g]? = some (.cells cs t (0, 0))
instance (priority := low) (g : Nat) (w : World) : Fsr g w w := ⟨fun _ _ h => h⟩
instance {g : Nat} {w W : World} [h : Fs1 g W w] : Fsr g W w := ⟨h.out⟩
instance {g : Nat} {w W : World} [h : Fsr g W w] (o : Obj) : Fs1 g (W.alloc o) w := ⟨fun cs t k => blk_alloc (h.out cs t k) o⟩
instance {g : Nat} {w W : World} [h : Fsr g W w] (n : Nat) : Fs1 g (W.drewN n) w := ⟨fun cs t k => blk_drewN (h.out cs t k) n⟩
instance {g : Nat} {w W : World} [h : Fsr g W w] : Fs1 g W.drew w := ⟨fun cs t k => blk_drew (h.out cs t k)⟩
instance {g g' j : Nat} {w W : World} {u : Value} [h : Fsr g W w] [n : Aside0 (g ≠ g')] : Fs1 g (W.setCell ⟨g', j, none⟩ u) w := ⟨fun cs t k => blk_far (h.out cs t k) n.out u⟩
/-- What of n values is known: the first a of them. -/
def tb_ (a b : Nat) : Array Bool := (List.replicate a true ++ List.replicate b false).toArray
theorem cZ_ {α : Type} {d : Kd α} {w W X : World} {xs : List α} {A : Option Addr} {n : Nat} (h : Aside0 (Kd.C d w A n xs)) (hb : Aside0 (Below w.heap.size w W)) [s : Stp W X] : Kd.C d X A n xs := Kd.C_below (Kd.C_below h.out hb.out) s.out
end Go.Proofs.YtipehkeabnfngaaDoor.Xtra
