/- An interpreter over lists and numbers, and that the program does what it does (part A). No condition beyond those in each statement. -/
import Derived.Orders
import GoSem.Core.Lib
set_option linter.unusedVariables false
set_option linter.unusedSimpArgs false
namespace Go.PV
mutual
inductive S where
 | int (k : IntKind) | bool | str | row (cs : SS)
inductive SS where
 | one (s : S) | cons (s : S) (cs : SS)
end
mutual
def S.beq : S → S → Bool
 | .int k, .int k' => decide (k = k')
 | .bool, .bool => true
 | .str, .str => true
 | .row a, .row b => a.beq b
 | _, _ => false
def SS.beq : SS → SS → Bool
 | .one a, .one b => a.beq b
 | .cons a x, .cons b y => a.beq b && x.beq y
 | _, _ => false
end
mutual
theorem S.eq_of_beq : ∀ {a b : S}, a.beq b = true → a = b
 | .int k, .int k', h => by simp only [S.beq, decide_eq_true_eq] at h; rw [h]
 | .bool, .bool, _ => rfl
 | .str, .str, _ => rfl
 | .row a, .row b, h => by simp only [S.beq] at h; rw [SS.eq_of_beq h]
 | .int _, .bool, h | .int _, .str, h | .int _, .row _, h | .bool, .int _, h | .bool, .str, h | .bool, .row _, h
 | .str, .int _, h | .str, .bool, h | .str, .row _, h | .row _, .int _, h | .row _, .bool, h | .row _, .str, h => by simp [S.beq] at h
theorem SS.eq_of_beq : ∀ {a b : SS}, a.beq b = true → a = b
 | .one a, .one b, h => by simp only [SS.beq] at h; rw [S.eq_of_beq h]
 | .cons a x, .cons b y, h => by simp only [SS.beq, Bool.and_eq_true] at h; rw [S.eq_of_beq h.1, SS.eq_of_beq h.2]
 | .one _, .cons _ _, h | .cons _ _, .one _, h => by simp [SS.beq] at h
end
mutual
@[reducible] def S.T : S → Type
 | .int _ => Int
 | .bool => Bool
 | .str => ByteArray
 | .row cs => List cs.T
@[reducible] def SS.T : SS → Type
 | .one s => s.T
 | .cons s cs => s.T × cs.T
end
mutual
def S.d : (s : S) → s.T
 | .int _ => (0 : Int)
 | .bool => false
 | .str => ByteArray.empty
 | .row cs => ([] : List cs.T)
def SS.d : (cs : SS) → cs.T
 | .one s => s.d
 | .cons s cs => (s.d, cs.d)
end
def SS.size : SS → Nat
 | .one _ => 1
 | .cons _ cs => cs.size + 1
def S.isRow : S → Bool
 | .row _ => true
 | _ => false
def SS.flat : SS → Bool
 | .one s => !s.isRow
 | .cons s cs => !s.isRow && cs.flat
mutual
def S.depth : S → Nat
 | .row cs => cs.depth + 1
 | _ => 0
def SS.depth : SS → Nat
 | .one s => s.depth
 | .cons s cs => max s.depth cs.depth
end
structure CV where
 s : S
 x : s.T
def CV.as (c : CV) (s : S) : Option s.T :=
 match h : c.s.beq s with
 | true => some (S.eq_of_beq h ▸ c.x)
 | false => none
mutual
theorem S.beq_self : ∀ s : S, s.beq s = true
 | .int k => by simp [S.beq]
 | .bool => rfl
 | .str => rfl
 | .row cs => by simp only [S.beq]; exact SS.beq_self cs
theorem SS.beq_self : ∀ cs : SS, cs.beq cs = true
 | .one s => by simp only [SS.beq]; exact S.beq_self s
 | .cons s cs => by simp only [SS.beq, Bool.and_eq_true]; exact ⟨S.beq_self s, SS.beq_self cs⟩
end
theorem CV.as_self (s : S) (x : s.T) : (CV.mk s x).as s = some x := by
 unfold CV.as
 split
 ·rfl
 ·rename_i h; simp [S.beq_self] at h
theorem CV.as_some {c : CV} {s : S} {x : s.T} (h : c.as s = some x) : c = ⟨s, x⟩ := by
 unfold CV.as at h
 split at h
 ·rename_i hb
  obtain ⟨s', y⟩ := c
  have := S.eq_of_beq hb
  simp only at this
  subst this
  have := Option.some.inj h
  subst this
  rfl
 ·cases h
def SS.get : (cs : SS) → cs.T → Nat → Option CV
 | .one s, x, 0 => some ⟨s, x⟩
 | .one _, _, _ + 1 => none
 | .cons s _, x, 0 => some ⟨s, x.1⟩
 | .cons _ cs, x, j + 1 => cs.get x.2 j
def SS.set : (cs : SS) → cs.T → Nat → CV → Option cs.T
 | .one s, _, 0, c => c.as s
 | .one _, _, _ + 1, _ => none
 | .cons s _, x, 0, c => (c.as s).map fun y => (y, x.2)
 | .cons _ cs, x, j + 1, c => (cs.set x.2 j c).map fun y => (x.1, y)
def SS.of : (cs : SS) → List CV → Option cs.T
 | .one s, [c] => c.as s
 | .cons s cs, c :: l => (c.as s).bind fun y => (cs.of l).map fun z => (y, z)
 | _, _ => none
def SS.list : SS → List S
 | .one s => [s]
 | .cons s cs => s :: cs.list
def SS.cvs : (cs : SS) → cs.T → List CV
 | .one s, x => [⟨s, x⟩]
 | .cons s cs, x => ⟨s, x.1⟩ :: cs.cvs x.2
@[reducible] def TupT : List S → Type
 | [] => Unit
 | [s] => s.T
 | s :: t :: l => s.T × TupT (t :: l)
def tupOf : (l : List S) → List CV → Option (TupT l)
 | [], [] => some ()
 | [s], [c] => c.as s
 | s :: t :: l, c :: m => (c.as s).bind fun y => (tupOf (t :: l) m).map fun z => (y, z)
 | _, _ => none
def ofTup : (l : List S) → TupT l → List CV
 | [], _ => []
 | [s], x => [⟨s, x⟩]
 | s :: t :: l, x => ⟨s, x.1⟩ :: ofTup (t :: l) x.2
abbrev Way := List (Nat × Nat)
def getP : (s : S) → s.T → Way → Option CV
 | s, x, [] => some ⟨s, x⟩
 | .row cs, xs, (i, j) :: st => match cs.get (List.getD xs i cs.d) j with
  | some c => getP c.s c.x st
  | none => none
 | _, _, _ :: _ => none
def setP : (s : S) → s.T → Way → CV → Option s.T
 | s, _, [], c => c.as s
 | .row cs, xs, (i, j) :: st, c => match cs.get (List.getD xs i cs.d) j with
  | some c0 => match setP c0.s c0.x st c with
   | some y => (cs.set (List.getD xs i cs.d) j ⟨c0.s, y⟩).map fun z => List.set xs i z
   | none => none
  | none => none
 | _, _, _ :: _, _ => none
inductive P where
 | dead
 | und
 | cv (c : CV)
 | e
 | ref (id j : Nat) (st : Way) (cut : Option Nat) (v : Nat)
 | addr (id j : Nat) (st : Way) (v : Nat)
 | ra (cs : SS) (xs : List cs.T) (i j : Nat)
 | agg (l : List P)
 | tup (l : List P)
inductive Cell where
 | any
 | mk (d : Nat) (c : CV)
 | al (id j : Nat) (st : Way) (cut : Option Nat) (v : Nat)
 | lk (c : CV)
structure VC where
 hv : Nat
 iv : Nat
 c : Cell
structure Root where
 virt : Bool
 cells : List VC
structure St where
 tm : Nat → P
 rt : Nat → Option Root
def upd {α : Type} (f : Nat → α) (i : Nat) (v : α) : Nat → α := fun j => bif Nat.beq j i then v else f j
def updO (f : Nat → P) (i : Option Nat) (v : P) : Nat → P := match i with | some i => upd f i v | none => f
abbrev Rt := Nat → Option Root
inductive TyI where
 | no
 | cell (s : S) (eb : Nat)
 | strct (offs : List Nat) (cells : List S)
def TyI.cells : TyI → List S
 | .no => []
 | .cell s _ => [s]
 | .strct _ l => l
def TyI.isAgg : TyI → Bool
 | .strct .. => true
 | _ => false
def zeroP : S → P
 | .int k => .cv ⟨.int k, (0 : Int)⟩
 | .bool => .cv ⟨.bool, false⟩
 | .str => .cv ⟨.str, ByteArray.empty⟩
 | .row _ => .e
def full : Nat := 9
def lift (s : S) (d : Nat) : Nat := bif Nat.ble s.depth d then full else d
def P.cells : P → List P
 | .agg l => l
 | p => [p]
def VC.ok (x : VC) (st : Way) (v : Nat) : Bool := Nat.beq v (match st with | [] => x.hv | _ => x.iv)
def VC.ver (x : VC) (st : Way) : Nat := match st with | [] => x.hv | _ => x.iv
def cellP (id j : Nat) (st : Way) (x : VC) (d : Nat) (c : CV) : P :=
 match c.s.isRow && !(Nat.beq d 0) with
 | true => .ref id j st none (x.ver st)
 | false => .cv c
def cellAt (rt : Rt) (id j : Nat) : Option VC := match rt id with
 | some r => r.cells[j]?
 | none => none
def isVirt (rt : Rt) (id : Nat) : Bool := match rt id with | some r => r.virt | none => true
def rdCell (rt : Rt) (id j : Nat) (st : Way) (v : Nat) : Option P :=
 match cellAt rt id j with
 | none => none
 | some x => match x.c with
  | .any => none
  | .mk d c => match st with
   | [] => bif isVirt rt id then none else some (cellP id j [] x d c)
   | _ => bif x.ok st v then (match getP c.s c.x st with
    | some c' => some (cellP id j st x (d - st.length) c')
    | none => none) else none
  | .al id2 j2 st2 cut v2 => match st with
   | [] => some (.ref id2 j2 st2 cut v2)
   | _ => none
  | .lk c => match st with
   | [] => some (.cv c)
   | _ => none
def lastAdd : Way → Nat → Way
 | [], _ => []
 | [(i, j)], n => [(i, j + n)]
 | x :: y :: l, n => x :: lastAdd (y :: l) n
def rdAt (rt : Rt) : P → Option P
 | .addr id j st v => rdCell rt id j st v
 | .ra cs xs i j => (cs.get (List.getD xs i cs.d) j).map .cv
 | _ => none
def moveOn : P → Nat → Option P
 | .addr id j st v, n => match st with
  | [] => some (.addr id (j + n) [] v)
  | _ => some (.addr id j (lastAdd st n) v)
 | .ra cs xs i j, n => some (.ra cs xs i (j + n))
 | _, _ => none
def rdCells (rt : Rt) (p : P) : Nat → Nat → Option (List P)
 | 0, _ => some []
 | n + 1, k => match moveOn p k with
  | some q => match rdAt rt q with
   | some x => match rdCells rt p n (k + 1) with
    | some l => some (x :: l)
    | none => none
   | none => none
  | none => none
def valOf (rt : Rt) : P → Option CV
 | .cv c => some c
 | .ref id j st cut v => match cellAt rt id j with
  | none => none
  | some x => match x.c with
   | .mk _ c => bif x.ok st v then (match getP c.s c.x st with
    | some ⟨.row cs, xs⟩ => (match cut with
     | none => some ⟨.row cs, xs⟩
     | some n => some ⟨.row cs, List.take n xs⟩)
    | _ => none) else none
   | _ => none
 | _ => none
def resP1 (rt : Rt) : P → P
 | .ref id j st cut v => match st with
  | [] => match cellAt rt id j with
   | some x => match x.c with
    | .al id2 j2 st2 cut2 v2 => bif Nat.beq x.hv v && cut2.isNone && cut.isNone then .ref id2 j2 st2 none v2 else .ref id j [] cut v
    | _ => .ref id j [] cut v
   | none => .ref id j [] cut v
  | st => .ref id j st cut v
 | p => p
def resP (rt : Rt) : P → P
 | .agg l => .agg (l.map (resP1 rt))
 | .tup l => .tup (l.map (resP1 rt))
 | p => resP1 rt p
def rowOf (rt : Rt) (cs : SS) : P → Option (List cs.T)
 | .e => some []
 | p => match valOf rt p with
  | some c => c.as (.row cs)
  | none => none
def setRt (rt : Rt) (id : Nat) (r : Root) : Rt := upd rt id (some r)
def setCellAt (rt : Rt) (id j : Nat) (x : VC) : Option Rt := match rt id with
 | some r => some (setRt rt id ⟨r.virt, r.cells.set j x⟩)
 | none => none
def freezeAt (rt : Rt) (id j n : Nat) : Option Rt := match cellAt rt id j with
 | some x => match x.c with
  | .mk d c => setCellAt rt id j ⟨x.hv, x.iv, .mk (min d n) c⟩
  | _ => none
 | none => none
def takeRow (rt : Rt) (cs : SS) : P → Option (List cs.T × Nat × Rt)
 | .e => some ([], full, rt)
 | .cv c => match c.as (.row cs) with
  | some xs => some (xs, 0, rt)
  | none => none
 | .ref id j st cut v => match rowOf rt cs (.ref id j st cut v) with
  | none => none
  | some xs => match cellAt rt id j with
   | none => none
   | some x => match x.c with
    | .mk d _ => match st with
     | [] => match setCellAt rt id j ⟨x.hv, x.iv + 1, .any⟩ with
      | some rt' => some (xs, d, rt')
      | none => none
     | _ => match freezeAt rt id j st.length with
      | some rt' => some (xs, 0, rt')
      | none => none
    | _ => none
 | _ => none
def takeCells (rt : Rt) : List S → List P → Nat → Option (List CV × Nat × Rt)
 | [], [], m => some ([], m, rt)
 | s :: ss, p :: ps, m => match s with
  | .row cs => match takeRow rt cs p with
   | some (xs, d, rt') => match takeCells rt' ss ps (min m (lift s d)) with
    | some (l, r) => some (⟨.row cs, xs⟩ :: l, r)
    | none => none
   | none => none
  | s => match p with
   | .cv c => match c.as s with
    | some x => match takeCells rt ss ps m with
     | some (l, r) => some (⟨s, x⟩ :: l, r)
     | none => none
    | none => none
   | _ => none
 | _, _, _ => none
def Cell.isLk : Cell → Bool
 | .lk _ => true
 | _ => false
def isPar (id : Nat) : Bool := Nat.beq (id % 4) 2
def putBox (rt : Rt) (id j : Nat) (s : S) (p : P) : Option Rt := match cellAt rt id j with
 | none => none
 | some x0 => bif x0.c.isLk then none else match s with
  | .row cs => match p with
   | .ref id2 j2 st2 cut v2 => bif Nat.beq id2 id && Nat.beq j2 j then
     (match st2 with
      | [] => match cut with
       | some n => match x0.c with
        | .mk d c => bif Nat.beq v2 x0.hv then (match c.as (.row cs) with
         | some xs => setCellAt rt id j ⟨x0.hv + 1, x0.iv + 2, .mk d ⟨.row cs, List.take n xs⟩⟩
         | none => none) else none
        | _ => none
       | none => none
      | _ => none)
    else bif isVirt rt id2 && st2.isEmpty && cut.isNone && !(isPar id2) then (match cellAt rt id2 j2 with
     | some o => match takeRow rt cs p with
      | some (xs, d, rt') => match setCellAt rt' id j ⟨x0.hv + 1, x0.iv + 1, .mk d ⟨.row cs, xs⟩⟩ with
       | some rt'' => setCellAt rt'' id2 j2 ⟨o.hv, o.iv + 1, .al id j [] none (x0.hv + 1)⟩
       | none => none
      | none => none
     | none => none)
    else (match rowOf rt cs p with
     | some _ => setCellAt rt id j ⟨x0.hv + 1, x0.iv + 1, .al id2 j2 st2 cut v2⟩
     | none => none)
   | p => match takeRow rt cs p with
    | some (xs, d, rt') => setCellAt rt' id j ⟨x0.hv + 1, x0.iv + 1, .mk d ⟨.row cs, xs⟩⟩
    | none => none
  | s => match p with
   | .cv c => match c.as s with
    | some x => setCellAt rt id j ⟨x0.hv + 1, x0.iv + 1, .mk full ⟨s, x⟩⟩
    | none => none
   | _ => none
def putElem (rt : Rt) (id j : Nat) (st : Way) (v : Nat) (s : S) (p : P) : Option Rt := match cellAt rt id j with
 | none => none
 | some x0 => match x0.c with
  | .mk d c => bif x0.ok st v && Nat.ble st.length d then (match s with
   | .row cs => match takeRow rt cs p with
    | some (xs, dv, rt') => match cellAt rt' id j with
     | some x1 => match x1.c with
      | .mk d1 c1 => bif x1.ok st v && Nat.ble st.length d1 then (match setP c1.s c1.x st ⟨.row cs, xs⟩ with
       | some y => setCellAt rt' id j ⟨x1.hv, x1.iv + 1, .mk (min d1 (st.length + lift s dv)) ⟨c1.s, y⟩⟩
       | none => none) else none
      | _ => none
     | none => none
    | none => none
   | s => match p with
    | .cv b => match b.as s with
     | some x => match setP c.s c.x st ⟨s, x⟩ with
      | some y => setCellAt rt id j ⟨x0.hv, x0.iv, .mk d ⟨c.s, y⟩⟩
      | none => none
     | none => none
    | _ => none) else none
  | _ => none
def putAt (rt : Rt) (a : P) (s : S) (p : P) : Option Rt := match a with
 | .addr id j st v => match st with
  | [] => bif isVirt rt id then none else putBox rt id j s p
  | _ => putElem rt id j st v s p
 | _ => none
def anew (rt : Rt) : P → P
 | .addr id j st v => match st with
  | [q] => match cellAt rt id j with
   | some x => .addr id j [q] x.iv
   | none => .dead
  | st => .addr id j st v
 | p => p
def atK (rt : Rt) (a : P) (k : Nat) : P := match k with | 0 => a | _ => anew rt a
def putCells (rt : Rt) (a : P) : List S → List P → Nat → Option Rt
 | [], [], _ => some rt
 | s :: ss, p :: ps, k => match moveOn (atK rt a k) k with
  | some q => match putAt rt q s p with
   | some rt' => putCells rt' a ss ps (k + 1)
   | none => none
  | none => none
 | _, _, _ => none
def fresh (t i : Nat) : Nat := 4 * (16 * t + i) + 1
def canon (t : Nat) : Nat := 4 * t
def parId (k : Nat) : Nat := 4 * k + 2
def newRoot (rt : Rt) (id : Nat) (r : Root) : Option Rt := match rt id with
 | none => some (setRt rt id r)
 | some _ => none
def zeroCells (l : List S) : List VC := l.map fun s => ⟨0, 0, .mk full ⟨s, s.d⟩⟩
structure PC where
 s : S
 d : Nat
 d2 : Nat
 kept : Bool
inductive Par where
 | val (agg : Bool) (cells : List PC)
 | ptr (cells : List PC)
inductive RK where
 | one | agg | ptr
structure Sig where
 ps : List Par
 rs : List (RK × List (S × Nat))
def Par.pcs : Par → List PC
 | .val _ l | .ptr l => l
def Par.back : Par → List PC
 | .val _ l => l.filter fun c => c.kept && !(c.d == 0)
 | .ptr l => l.filter fun c => c.kept
def Sig.ins (g : Sig) : List S := (g.ps.flatMap Par.pcs).map (·.s)
def Sig.backs (g : Sig) : List PC := g.ps.flatMap Par.back
def Sig.res (g : Sig) : List (S × Nat) := g.rs.flatMap (·.2)
def Sig.outs (g : Sig) : List S := g.res.map (·.1) ++ g.backs.map (·.s)
def Sig.holds (g : Sig) : Bool := (g.res.any fun c => Nat.blt c.2 c.1.depth) || (g.backs.any fun c => Nat.blt c.d2 c.s.depth)
def binop (op : BinOp) (a b : CV) : Option (Bool × CV) :=
 match op, a, b with
 | .shl, ⟨.int k, x⟩, ⟨.int _, y⟩ => some (decide (¬ (y : Int) < 0), ⟨.int k, k.wrap ((x : Int) * 2 ^ (min (Int.toNat y) k.bits))⟩)
 | .shr, ⟨.int k, x⟩, ⟨.int _, y⟩ => some (decide (¬ (y : Int) < 0), ⟨.int k, Int.fdiv x (2 ^ (min (Int.toNat y) k.bits))⟩)
 | op, ⟨.int k, x⟩, ⟨.int k', y⟩ => bif decide (k = k') then (match op with
   | .add => some (true, ⟨.int k, k.wrap ((x : Int) + (y : Int))⟩)
   | .sub => some (true, ⟨.int k, k.wrap ((x : Int) - (y : Int))⟩)
   | .mul => some (true, ⟨.int k, k.wrap ((x : Int) * (y : Int))⟩)
   | .quo => some (decide (¬ (y : Int) = 0), ⟨.int k, k.wrap (Int.tdiv x y)⟩)
   | .rem => some (decide (¬ (y : Int) = 0), ⟨.int k, Int.tmod x y⟩)
   | .and => some (true, ⟨.int k, k.wrap ((BitVec.ofInt k.bits x &&& BitVec.ofInt k.bits y).toNat : Int)⟩)
   | .or => some (true, ⟨.int k, k.wrap ((BitVec.ofInt k.bits x ||| BitVec.ofInt k.bits y).toNat : Int)⟩)
   | .xor => some (true, ⟨.int k, k.wrap ((BitVec.ofInt k.bits x ^^^ BitVec.ofInt k.bits y).toNat : Int)⟩)
   | .andNot => some (true, ⟨.int k, k.wrap ((BitVec.ofInt k.bits x &&& ~~~ BitVec.ofInt k.bits y).toNat : Int)⟩)
   | .eql => some (true, ⟨.bool, (x : Int) == (y : Int)⟩)
   | .neq => some (true, ⟨.bool, (x : Int) != (y : Int)⟩)
   | .lss => some (true, ⟨.bool, decide ((x : Int) < (y : Int))⟩)
   | .leq => some (true, ⟨.bool, decide ((x : Int) ≤ (y : Int))⟩)
   | .gtr => some (true, ⟨.bool, decide ((x : Int) > (y : Int))⟩)
   | .geq => some (true, ⟨.bool, decide ((x : Int) ≥ (y : Int))⟩)
   | _ => none) else none
 | op, ⟨.str, x⟩, ⟨.str, y⟩ => match op with
  | .add => some (decide (¬ ((ByteArray.size x + ByteArray.size y : Nat) : Int) > IntKind.i64.max), ⟨.str, ByteArray.append x y⟩)
  | .eql => some (true, ⟨.bool, ByteArray.toList x == ByteArray.toList y⟩)
  | .neq => some (true, ⟨.bool, !(ByteArray.toList x == ByteArray.toList y)⟩)
  | .lss => some (true, ⟨.bool, Op.bytesLess (ByteArray.toList x) (ByteArray.toList y)⟩)
  | .leq => some (true, ⟨.bool, (Op.bytesLess (ByteArray.toList x) (ByteArray.toList y) || ByteArray.toList x == ByteArray.toList y)⟩)
  | .gtr => some (true, ⟨.bool, !(Op.bytesLess (ByteArray.toList x) (ByteArray.toList y) || ByteArray.toList x == ByteArray.toList y)⟩)
  | .geq => some (true, ⟨.bool, !(Op.bytesLess (ByteArray.toList x) (ByteArray.toList y))⟩)
  | _ => none
 | .eql, ⟨.bool, x⟩, ⟨.bool, y⟩ => some (true, ⟨.bool, (x : Bool) == (y : Bool)⟩)
 | .neq, ⟨.bool, x⟩, ⟨.bool, y⟩ => some (true, ⟨.bool, !((x : Bool) == (y : Bool))⟩)
 | _, _, _ => none
def strNums (s : ByteArray) : List Int := s.data.toList.map fun b => (b.toNat : Int)
def numsStr (l : List Int) : ByteArray := ⟨(l.map fun n => UInt8.ofNat n.toNat).toArray⟩
end Go.PV

namespace Go.PV
abbrev Fp := Nat → Prop
abbrev nil' : Fp := fun _ => False
def free (fz : Nat × Nat) (n : Nat) : Prop := ∀ i, i < n → ¬ (fz.1 ≤ i ∧ i < fz.2)
mutual
def Rep (w : World) (Z : Fp) : (s : S) → Nat → s.T → Value → Fp → Prop
 | .int k, _, n, v, F => v = .int k n ∧ F = nil'
 | .bool, _, b, v, F => v = .bool b ∧ F = nil'
 | .str, _, s, v, F => v = .string s ∧ F = nil'
 | .row cs, d, xs, v, F => ∃ (A : Option Addr) (cap : Nat), v = .slice A (List.length xs) cap ∧ List.length xs ≤ cap ∧ (match d with
  | 0 => F = nil' ∧ ∀ (i : Nat) (h : i < List.length xs), ∃ a, A = some a ∧ a.spot = none ∧ Z a.block ∧ RepC w Z cs 0 (xs[i]'h) a.block (a.off + i * cs.size) nil'
  | d + 1 => (A = none ∧ cap = 0 ∧ xs = [] ∧ F = nil') ∨ ∃ (b : Nat) (c : Array Value) (E : TypeId) (fz : Nat × Nat) (G : Nat → Fp),
    A = some ⟨b, 0, none⟩ ∧ w.heap[b]? = some (.cells c E fz) ∧ cap * cs.size ≤ c.size ∧ free fz c.size ∧
    (∀ (i : Nat) (h : i < List.length xs), RepC w Z cs d (xs[i]'h) b (i * cs.size) (G i)) ∧
    F = (fun b' => b' = b ∨ ∃ i, i < List.length xs ∧ G i b') ∧ (∀ i, i < List.length xs → ¬ G i b) ∧
    (∀ i j, i < List.length xs → j < List.length xs → i ≠ j → ∀ b', G i b' → ¬ G j b'))
def RepC (w : World) (Z : Fp) : (cs : SS) → Nat → cs.T → Nat → Nat → Fp → Prop
 | .one s, d, x, b, o, F => ∃ v, w.cell? ⟨b, o, none⟩ = some v ∧ Rep w Z s d x v F
 | .cons s cs, d, x, b, o, F => ∃ v F1 F2, w.cell? ⟨b, o, none⟩ = some v ∧ Rep w Z s d x.1 v F1 ∧ RepC w Z cs d x.2 b (o + 1) F2 ∧
   F = (fun b' => F1 b' ∨ F2 b') ∧ ∀ b', F1 b' → ¬ F2 b'
end
variable {w w' : World} {Z Z' : Fp}
theorem SS.size_pos : ∀ cs : SS, 0 < cs.size
 | .one _ => Nat.one_pos
 | .cons _ _ => Nat.succ_pos _
theorem cell_of_heap {b o : Nat} (h : w'.heap[b]? = w.heap[b]?) : w'.cell? ⟨b, o, none⟩ = w.cell? ⟨b, o, none⟩ := by
 unfold World.cell?; rw [h]
mutual
theorem Rep.frame (hz : ∀ b, Z b → Z' b) : ∀ {s : S} {d : Nat} {x : s.T} {v : Value} {F : Fp}, Rep w Z s d x v F →
  (∀ b, F b ∨ Z b → w'.heap[b]? = w.heap[b]?) → Rep w' Z' s d x v F
 | .int _, _, _, _, _, h, _ => h
 | .bool, _, _, _, _, h, _ => h
 | .str, _, _, _, _, h, _ => h
 | .row cs, 0, xs, v, F, h, hw => by
  simp only [Rep] at h ⊢
  obtain ⟨A, cap, hv, hc, hF, hi⟩ := h
  refine ⟨A, cap, hv, hc, hF, fun i hlt => ?_⟩
  obtain ⟨a, h1, h2, h3, h4⟩ := hi i hlt
  exact ⟨a, h1, h2, hz _ h3, RepC.frame hz h4 (hw _ (.inr h3)) (fun b hb => hw b (hb.elim (fun h => h.elim) .inr))⟩
 | .row cs, d + 1, xs, v, F, h, hw => by
  simp only [Rep] at h ⊢
  obtain ⟨A, cap, hv, hc, h⟩ := h
  refine ⟨A, cap, hv, hc, ?_⟩
  rcases h with h | ⟨b, c, E, fz, G, h1, h2, h3, h4, h5, h6, h7, h8⟩
  ·exact .inl h
  ·subst h6
   refine .inr ⟨b, c, E, fz, G, h1, (hw b (.inl (.inl rfl))).trans h2, h3, h4, fun i hlt => ?_, rfl, h7, h8⟩
   exact RepC.frame hz (h5 i hlt) (hw b (.inl (.inl rfl))) (fun b' hb => hw b' (hb.imp (fun h => .inr ⟨i, hlt, h⟩) id))
theorem RepC.frame (hz : ∀ b, Z b → Z' b) : ∀ {cs : SS} {d : Nat} {x : cs.T} {b o : Nat} {F : Fp}, RepC w Z cs d x b o F →
  w'.heap[b]? = w.heap[b]? → (∀ b, F b ∨ Z b → w'.heap[b]? = w.heap[b]?) → RepC w' Z' cs d x b o F
 | .one s, d, x, b, o, F, h, hb, hw => by
  simp only [RepC] at h ⊢
  obtain ⟨v, h1, h2⟩ := h
  exact ⟨v, (cell_of_heap hb).trans h1, Rep.frame hz h2 hw⟩
 | .cons s cs, d, x, b, o, F, h, hb, hw => by
  simp only [RepC] at h ⊢
  obtain ⟨v, F1, F2, h1, h2, h3, h4, h5⟩ := h
  subst h4
  exact ⟨v, F1, F2, (cell_of_heap hb).trans h1, Rep.frame hz h2 (fun b' h => hw b' (h.imp .inl id)), RepC.frame hz h3 hb (fun b' h => hw b' (h.imp .inr id)), rfl, h5⟩
end
theorem Rep.mono {s : S} {d : Nat} {x : s.T} {v : Value} {F : Fp} (h : Rep w Z s d x v F) (hz : ∀ b, Z b → Z' b) : Rep w Z' s d x v F :=
 h.frame hz (fun _ _ => rfl)
theorem RepC.mono {cs : SS} {d : Nat} {x : cs.T} {b o : Nat} {F : Fp} (h : RepC w Z cs d x b o F) (hz : ∀ b, Z b → Z' b) : RepC w Z' cs d x b o F :=
 h.frame hz rfl (fun _ _ => rfl)
theorem RepC.cells (hz : ∀ b, Z b → Z' b) : ∀ {cs : SS} {d : Nat} {x : cs.T} {b o : Nat} {F : Fp}, RepC w Z cs d x b o F →
  (∀ i, i < cs.size → w'.cell? ⟨b, o + i, none⟩ = w.cell? ⟨b, o + i, none⟩) → (∀ b, F b ∨ Z b → w'.heap[b]? = w.heap[b]?) → RepC w' Z' cs d x b o F
 | .one s, d, x, b, o, F, h, hb, hw => by
  simp only [RepC] at h ⊢
  obtain ⟨v, h1, h2⟩ := h
  exact ⟨v, (hb 0 Nat.one_pos).trans h1, h2.frame hz hw⟩
 | .cons s cs, d, x, b, o, F, h, hb, hw => by
  simp only [RepC] at h ⊢
  obtain ⟨v, F1, F2, h1, h2, h3, h4, h5⟩ := h
  subst h4
  refine ⟨v, F1, F2, (hb 0 (Nat.succ_pos _)).trans h1, h2.frame hz (fun b' h => hw b' (h.imp .inl id)), RepC.cells hz h3 (fun i hi => ?_) (fun b' h => hw b' (h.imp .inr id)), rfl, h5⟩
  have := hb (i + 1) (by simp only [SS.size]; omega)
  rwa [← Nat.add_assoc, Nat.add_right_comm] at this
mutual
theorem Rep.toRo : ∀ {s : S} {d : Nat} {x : s.T} {v : Value} {F : Fp}, Rep w Z s d x v F → Rep w (fun b => Z b ∨ F b) s 0 x v nil'
 | .int _, _, _, _, _, h => ⟨h.1, rfl⟩
 | .bool, _, _, _, _, h => ⟨h.1, rfl⟩
 | .str, _, _, _, _, h => ⟨h.1, rfl⟩
 | .row cs, 0, xs, v, F, h => by
  have h' := h
  simp only [Rep] at h'
  obtain ⟨A, cap, hv, hc, hF, hi⟩ := h'
  subst hF
  exact h.mono fun b hb => .inl hb
 | .row cs, d + 1, xs, v, F, h => by
  simp only [Rep] at h ⊢
  obtain ⟨A, cap, hv, hc, h⟩ := h
  refine ⟨A, cap, hv, hc, trivial, fun i hlt => ?_⟩
  rcases h with ⟨_, _, h, _⟩ | ⟨b, c, E, fz, G, h1, h2, h3, h4, h5, h6, h7, h8⟩
  ·subst h; simp at hlt
  ·subst h6
   exact ⟨⟨b, 0, none⟩, h1, rfl, .inr (.inl rfl), by
    rw [Nat.zero_add]
    exact (RepC.toRo (h5 i hlt)).mono fun b' hb => hb.imp id fun hg => .inr ⟨i, hlt, hg⟩⟩
theorem RepC.toRo : ∀ {cs : SS} {d : Nat} {x : cs.T} {b o : Nat} {F : Fp}, RepC w Z cs d x b o F → RepC w (fun b => Z b ∨ F b) cs 0 x b o nil'
 | .one s, d, x, b, o, F, h => by
  simp only [RepC] at h ⊢
  obtain ⟨v, h1, h2⟩ := h
  exact ⟨v, h1, Rep.toRo h2⟩
 | .cons s cs, d, x, b, o, F, h => by
  simp only [RepC] at h ⊢
  obtain ⟨v, F1, F2, h1, h2, h3, h4, h5⟩ := h
  subst h4
  refine ⟨v, nil', nil', h1, (Rep.toRo h2).mono fun b' hb => hb.imp id .inl, (RepC.toRo h3).mono fun b' hb => hb.imp id .inr, ?_, fun _ h => h.elim⟩
  funext b'; simp [nil']
end
mutual
theorem Rep.weaken : ∀ {s : S} {d : Nat} {x : s.T} {v : Value} {F : Fp} (d' : Nat), d' ≤ d → Rep w Z s d x v F →
  ∃ F' : Fp, (∀ b, F' b → F b) ∧ Rep w (fun b => Z b ∨ (F b ∧ ¬ F' b)) s d' x v F'
 | .int _, _, _, _, _, _, _, h => ⟨nil', fun _ h => h.elim, h.1, rfl⟩
 | .bool, _, _, _, _, _, _, h => ⟨nil', fun _ h => h.elim, h.1, rfl⟩
 | .str, _, _, _, _, _, _, h => ⟨nil', fun _ h => h.elim, h.1, rfl⟩
 | .row cs, d, xs, v, F, 0, _, h => ⟨nil', fun _ h => h.elim, h.toRo.mono fun b hb => hb.imp id fun h => ⟨h, fun h => h.elim⟩⟩
 | .row cs, 0, xs, v, F, d' + 1, hd, h => by omega
 | .row cs, d + 1, xs, v, F, d' + 1, hd, h => by
  simp only [Rep] at h
  obtain ⟨A, cap, hv, hc, h⟩ := h
  rcases h with ⟨e1, e2, e3, e4⟩ | ⟨b, c, E, fz, G, h1, h2, h3, h4, h5, h6, h7, h8⟩
  ·refine ⟨nil', fun _ h => h.elim, ?_⟩
   simp only [Rep]
   exact ⟨A, cap, hv, hc, .inl ⟨e1, e2, e3, trivial⟩⟩
  ·have hex : ∀ i, ∃ Gi : Fp, (∀ b', Gi b' → G i b') ∧ ∀ (hlt : i < List.length xs), RepC w (fun b' => Z b' ∨ (G i b' ∧ ¬ Gi b')) cs d' (xs[i]'hlt) b (i * cs.size) Gi := fun i => by
    by_cases hlt : i < List.length xs
    ·obtain ⟨Gi, g1, g2⟩ := RepC.weaken d' (Nat.le_of_succ_le_succ hd) (h5 i hlt)
     exact ⟨Gi, g1, fun _ => g2⟩
    ·exact ⟨nil', fun _ h => h.elim, fun h => absurd h hlt⟩
   let G' : Nat → Fp := fun i => Classical.choose (hex i)
   have g1 : ∀ i b', G' i b' → G i b' := fun i => (Classical.choose_spec (hex i)).1
   have g2 : ∀ i (hlt : i < List.length xs), RepC w (fun b' => Z b' ∨ (G i b' ∧ ¬ G' i b')) cs d' (xs[i]'hlt) b (i * cs.size) (G' i) := fun i => (Classical.choose_spec (hex i)).2
   subst h6
   refine ⟨fun b' => b' = b ∨ ∃ i, i < List.length xs ∧ G' i b', fun b' hb => hb.imp id fun ⟨i, hi, hg⟩ => ⟨i, hi, g1 i b' hg⟩, ?_⟩
   simp only [Rep]
   refine ⟨A, cap, hv, hc, .inr ⟨b, c, E, fz, G', h1, h2, h3, h4, fun i hlt => ?_, rfl, fun i hi hg => h7 i hi (g1 i b hg), fun i j hi hj hij b' hg hg' => h8 i j hi hj hij b' (g1 i b' hg) (g1 j b' hg')⟩⟩
   refine (g2 i hlt).mono fun b' hb => hb.imp id fun ⟨hg, hn⟩ => ⟨.inr ⟨i, hlt, hg⟩, ?_⟩
   rintro (rfl | ⟨j, hj, hg'⟩)
   ·exact h7 i hlt hg
   ·by_cases hij : i = j
    ·subst hij; exact hn hg'
    ·exact h8 i j hlt hj hij b' hg (g1 j b' hg')
theorem RepC.weaken : ∀ {cs : SS} {d : Nat} {x : cs.T} {b o : Nat} {F : Fp} (d' : Nat), d' ≤ d → RepC w Z cs d x b o F →
  ∃ F' : Fp, (∀ b, F' b → F b) ∧ RepC w (fun b => Z b ∨ (F b ∧ ¬ F' b)) cs d' x b o F'
 | .one s, d, x, b, o, F, d', hd, h => by
  simp only [RepC] at h
  obtain ⟨v, h1, h2⟩ := h
  obtain ⟨F', f1, f2⟩ := Rep.weaken d' hd h2
  exact ⟨F', f1, by simp only [RepC]; exact ⟨v, h1, f2⟩⟩
 | .cons s cs, d, x, b, o, F, d', hd, h => by
  simp only [RepC] at h
  obtain ⟨v, F1, F2, h1, h2, h3, h4, h5⟩ := h
  obtain ⟨F1', f1, f2⟩ := Rep.weaken d' hd h2
  obtain ⟨F2', f3, f4⟩ := RepC.weaken d' hd h3
  subst h4
  refine ⟨fun b' => F1' b' ∨ F2' b', fun b' hb => hb.imp (f1 b') (f3 b'), ?_⟩
  simp only [RepC]
  refine ⟨v, F1', F2', h1, f2.mono ?_, f4.mono ?_, rfl, fun b' g1 g2 => h5 b' (f1 b' g1) (f3 b' g2)⟩
  ·rintro b' (hz | ⟨g, n⟩)
   ·exact .inl hz
   ·exact .inr ⟨.inl g, fun hb => hb.elim n fun h => h5 b' g (f3 b' h)⟩
  ·rintro b' (hz | ⟨g, n⟩)
   ·exact .inl hz
   ·exact .inr ⟨.inr g, fun hb => hb.elim (fun h => h5 b' (f1 b' h) g) n⟩
end
mutual
theorem Rep.deep : ∀ {s : S} {d d' : Nat} {x : s.T} {v : Value} {F : Fp}, s.depth ≤ d → s.depth ≤ d' → Rep w Z s d x v F → Rep w Z' s d' x v F
 | .int _, _, _, _, _, _, _, _, h => h
 | .bool, _, _, _, _, _, _, _, h => h
 | .str, _, _, _, _, _, _, _, h => h
 | .row cs, 0, _, _, _, _, h, _, _ => by simp [S.depth] at h
 | .row cs, _ + 1, 0, _, _, _, _, h, _ => by simp [S.depth] at h
 | .row cs, d + 1, d' + 1, xs, v, F, hd, hd', h => by
  simp only [Rep] at h ⊢
  obtain ⟨A, cap, hv, hc, h⟩ := h
  refine ⟨A, cap, hv, hc, ?_⟩
  rcases h with h | ⟨b, c, E, fz, G, h1, h2, h3, h4, h5, h6, h7, h8⟩
  ·exact .inl h
  ·simp only [S.depth] at hd hd'
   exact .inr ⟨b, c, E, fz, G, h1, h2, h3, h4, fun i hlt => RepC.deep (by omega) (by omega) (h5 i hlt), h6, h7, h8⟩
theorem RepC.deep : ∀ {cs : SS} {d d' : Nat} {x : cs.T} {b o : Nat} {F : Fp}, cs.depth ≤ d → cs.depth ≤ d' → RepC w Z cs d x b o F → RepC w Z' cs d' x b o F
 | .one s, d, d', x, b, o, F, hd, hd', h => by
  simp only [RepC] at h ⊢
  obtain ⟨v, h1, h2⟩ := h
  exact ⟨v, h1, Rep.deep hd hd' h2⟩
 | .cons s cs, d, d', x, b, o, F, hd, hd', h => by
  simp only [RepC] at h ⊢
  obtain ⟨v, F1, F2, h1, h2, h3, h4, h5⟩ := h
  simp only [SS.depth] at hd hd'
  exact ⟨v, F1, F2, h1, Rep.deep (by omega) (by omega) h2, RepC.deep (by omega) (by omega) h3, h4, h5⟩
end
end Go.PV

namespace Go.PV
variable {w w' : World} {Z Z' : Fp}
def SS.at : SS → Nat → Option S
 | .one s, 0 => some s
 | .one _, _ + 1 => none
 | .cons s _, 0 => some s
 | .cons _ cs, j + 1 => cs.at j
theorem SS.get_at : ∀ {cs : SS} {x : cs.T} {j : Nat} {c : CV}, cs.get x j = some c → cs.at j = some c.s ∧ j < cs.size
 | .one s, x, 0, c, h => by simp only [SS.get, Option.some.injEq] at h; subst h; exact ⟨rfl, Nat.one_pos⟩
 | .one _, _, _ + 1, _, h => by simp [SS.get] at h
 | .cons s cs, x, 0, c, h => by simp only [SS.get, Option.some.injEq] at h; subst h; exact ⟨rfl, Nat.succ_pos _⟩
 | .cons s cs, x, j + 1, c, h => by
  simp only [SS.get] at h
  obtain ⟨h1, h2⟩ := SS.get_at h
  exact ⟨h1, Nat.succ_lt_succ h2⟩
theorem RepC.focus : ∀ {cs : SS} {d : Nat} {x : cs.T} {b o : Nat} {F : Fp} {j : Nat} {c : CV}, RepC w Z cs d x b o F → cs.get x j = some c →
  ∃ v F', w.cell? ⟨b, o + j, none⟩ = some v ∧ Rep w Z c.s d c.x v F' ∧ (∀ b', F' b' → F b') ∧
   ∀ (w' : World) (Z' : Fp) (y : c.s.T) (u : Value) (F'' : Fp) (x' : cs.T), cs.set x j ⟨c.s, y⟩ = some x' →
    (∀ i, i < cs.size → i ≠ j → w'.cell? ⟨b, o + i, none⟩ = w.cell? ⟨b, o + i, none⟩) → w'.cell? ⟨b, o + j, none⟩ = some u →
    (∀ b', F b' ∧ ¬ F' b' → w'.heap[b']? = w.heap[b']?) → (∀ b', Z b' → Z' b') → (∀ b', Z b' → w'.heap[b']? = w.heap[b']?) →
    Rep w' Z' c.s d y u F'' → (∀ b', F'' b' → ¬ (F b' ∧ ¬ F' b')) → RepC w' Z' cs d x' b o (fun b' => (F b' ∧ ¬ F' b') ∨ F'' b')
 | .one s, d, x, b, o, F, 0, c, h, hg => by
  simp only [SS.get, Option.some.injEq] at hg
  subst hg
  simp only [RepC] at h
  obtain ⟨v, h1, h2⟩ := h
  refine ⟨v, F, h1, h2, fun _ h => h, fun w' Z' y u F'' x' hs _ hu _ _ _ hr _ => ?_⟩
  simp only [SS.set, CV.as_self, Option.some.injEq] at hs
  subst hs
  simp only [RepC]
  refine ⟨u, hu, ?_⟩
  have e : (fun b' => (F b' ∧ ¬ F b') ∨ F'' b') = F'' := by funext b'; simp
  rw [e]
  exact hr
 | .one _, _, _, _, _, _, _ + 1, _, _, hg => by simp [SS.get] at hg
 | .cons s cs, d, x, b, o, F, 0, c, h, hg => by
  simp only [SS.get, Option.some.injEq] at hg
  subst hg
  simp only [RepC] at h
  obtain ⟨v, F1, F2, h1, h2, h3, h4, h5⟩ := h
  subst h4
  refine ⟨v, F1, h1, h2, fun _ h => .inl h, fun w' Z' y u F'' x' hs hc hu hf hz hzz hr hd => ?_⟩
  simp only [SS.set, CV.as_self, Option.map_some, Option.some.injEq] at hs
  subst hs
  simp only [RepC]
  refine ⟨u, F'', F2, hu, hr, ?_, ?_, fun b' hb2 hb3 => hd b' hb2 ⟨.inr hb3, fun hb1 => h5 b' hb1 hb3⟩⟩
  ·refine RepC.cells hz h3 (fun i hi => ?_) (fun b' hb' => ?_)
   ·have := hc (i + 1) (by simp only [SS.size]; omega) (by omega)
    rwa [← Nat.add_assoc, Nat.add_right_comm] at this
   ·exact hb'.elim (fun h2' => hf b' ⟨.inr h2', fun h1' => h5 b' h1' h2'⟩) (hzz b')
  ·funext b'
   have := h5 b'
   by_cases g1 : F1 b' <;> by_cases g2 : F2 b' <;> by_cases g3 : F'' b' <;> simp_all
 | .cons s cs, d, x, b, o, F, j + 1, c, h, hg => by
  simp only [SS.get] at hg
  simp only [RepC] at h
  obtain ⟨v, F1, F2, h1, h2, h3, h4, h5⟩ := h
  subst h4
  obtain ⟨v', F', g1, g2, g3, g4⟩ := RepC.focus h3 hg
  refine ⟨v', F', by rw [← Nat.add_assoc, Nat.add_right_comm]; exact g1, g2, fun b' hb => .inr (g3 b' hb), fun w' Z' y u F'' x' hs hc hu hf hz hzz hr hd => ?_⟩
  simp only [SS.set] at hs
  cases hset : cs.set x.2 j ⟨c.s, y⟩ with
  | none => rw [hset] at hs; cases hs
  | some z =>
   rw [hset] at hs
   have := Option.some.inj hs
   subst this
   simp only [RepC]
   have hh := g4 w' Z' y u F'' z hset (fun i hi hij => by
     have := hc (i + 1) (by simp only [SS.size]; omega) (by omega)
     rwa [← Nat.add_assoc, Nat.add_right_comm] at this)
    (by rw [← Nat.add_assoc, Nat.add_right_comm] at hu; exact hu) (fun b' hb' => hf b' ⟨.inr hb'.1, hb'.2⟩) hz hzz hr (fun b' hb' hn => hd b' hb' ⟨.inr hn.1, hn.2⟩)
   refine ⟨v, F1, _, ?_, ?_, hh, ?_, fun b' hb1 hb2 => ?_⟩
   ·have := hc 0 (Nat.succ_pos _) (by omega)
    rw [Nat.add_zero] at this
    exact this.trans h1
   ·exact h2.frame hz fun b' hb' => hb'.elim (fun hb1 => hf b' ⟨.inl hb1, fun hb2 => h5 b' hb1 (g3 b' hb2)⟩) (hzz b')
   ·funext b'
    have := h5 b'
    have := g3 b'
    by_cases g1 : F1 b' <;> by_cases g2 : F2 b' <;> by_cases g3 : F'' b' <;> by_cases g4 : F' b' <;> simp_all
   ·rcases hb2 with ⟨hb2, _⟩ | hb2
    ·exact h5 b' hb1 hb2
    ·exact hd b' hb2 ⟨.inl hb1, fun hb3 => h5 b' hb1 (g3 b' hb3)⟩
theorem lin {k i m t j : Nat} (hj : j < m) (ht : t < m) (h : k * m + t = i * m + j) : k = i := by
 have h1 : (k * m + t) / m = k := by rw [Nat.mul_comm, Nat.mul_add_div (by omega), Nat.div_eq_of_lt ht, Nat.add_zero]
 have h2 : (i * m + j) / m = i := by rw [Nat.mul_comm, Nat.mul_add_div (by omega), Nat.div_eq_of_lt hj, Nat.add_zero]
 rw [← h1, h, h2]
theorem getD_lt {α : Type} {xs : List α} {i : Nat} {d : α} (h : i < xs.length) : List.getD xs i d = xs[i] := by
 simp [List.getD, h]
theorem Rep.elem {cs : SS} {d : Nat} {xs : List cs.T} {v : Value} {F : Fp} {i : Nat} (h : Rep w Z (.row cs) d xs v F) (hi : i < xs.length) :
  ∃ a n cap Fi, v = .slice (some a) n cap ∧ a.spot = none ∧ RepC w Z cs (d - 1) (List.getD xs i cs.d) a.block (a.off + i * cs.size) Fi ∧ (F a.block ∨ Z a.block) ∧ ∀ b, Fi b → F b := by
 rw [getD_lt hi]
 cases d with
 | zero =>
  simp only [Rep] at h
  obtain ⟨A, cap, hv, hc, hF, h⟩ := h
  obtain ⟨a, h1, h2, h3, h4⟩ := h i hi
  subst h1
  exact ⟨a, _, cap, nil', hv, h2, h4, .inr h3, fun _ h => h.elim⟩
 | succ d =>
  simp only [Rep] at h
  obtain ⟨A, cap, hv, hc, h⟩ := h
  rcases h with ⟨_, _, h, _⟩ | ⟨b, c, E, fz, G, h1, h2, h3, h4, h5, h6, h7, h8⟩
  ·subst h; simp at hi
  ·subst h1 h6
   exact ⟨⟨b, 0, none⟩, _, cap, G i, hv, rfl, by rw [Nat.zero_add]; exact h5 i hi, .inl (.inl rfl), fun b' hb => .inr ⟨i, hi, hb⟩⟩
def SameBut (w w' : World) (b o : Nat) (u : Value) : Prop := ∃ c c' E fz, w.heap[b]? = some (.cells c E fz) ∧ w'.heap[b]? = some (.cells c' E fz) ∧
 c'.size = c.size ∧ c'[o]? = some u ∧ ∀ i, i ≠ o → c'[i]? = c[i]?
theorem SameBut.other {b o : Nat} {u : Value} (h : SameBut w w' b o u) {i : Nat} (hi : i ≠ o) : w'.cell? ⟨b, i, none⟩ = w.cell? ⟨b, i, none⟩ := by
 obtain ⟨c, c', E, fz, h1, h2, h3, h4, h5⟩ := h
 simp only [World.cell?, h1, h2]
 simpa using h5 i hi
theorem SameBut.here {b o : Nat} {u : Value} (h : SameBut w w' b o u) : w'.cell? ⟨b, o, none⟩ = some u := by
 obtain ⟨c, c', E, fz, h1, h2, h3, h4, h5⟩ := h
 simp only [World.cell?, h2]
 simpa using h4
theorem SameBut.refl {b o : Nat} {u : Value} {c : Array Value} {E : TypeId} {fz : Nat × Nat} (h : w.heap[b]? = some (.cells c E fz)) (hu : w.cell? ⟨b, o, none⟩ = some u) (h' : w'.heap[b]? = w.heap[b]?) : SameBut w w' b o u :=
 ⟨c, c, E, fz, h, h'.trans h, rfl, by simpa [World.cell?, h] using hu, fun _ _ => rfl⟩
theorem Rep.row_focus {cs : SS} {d : Nat} {xs : List cs.T} {v : Value} {F : Fp} {i j : Nat} {c : CV} (h : Rep w Z (.row cs) (d + 1) xs v F) (hi : i < xs.length)
  (hg : cs.get (List.getD xs i cs.d) j = some c) :
  ∃ b n cap v' F', v = .slice (some ⟨b, 0, none⟩) n cap ∧ F b ∧ ¬ F' b ∧ (∀ b', F' b' → F b') ∧ w.cell? ⟨b, i * cs.size + j, none⟩ = some v' ∧
   w.frozen? ⟨b, i * cs.size + j, none⟩ = false ∧ (∃ ca E fz, w.heap[b]? = some (.cells ca E fz)) ∧ Rep w Z c.s d c.x v' F' ∧
   ∀ (w' : World) (Z' : Fp) (y : c.s.T) (u : Value) (F'' : Fp) (z : cs.T), cs.set (List.getD xs i cs.d) j ⟨c.s, y⟩ = some z → SameBut w w' b (i * cs.size + j) u →
    (∀ b', F b' ∧ ¬ F' b' ∧ b' ≠ b → w'.heap[b']? = w.heap[b']?) → (∀ b', Z b' → Z' b') → (∀ b', Z b' → w'.heap[b']? = w.heap[b']?) →
    Rep w' Z' c.s d y u F'' → (∀ b', F'' b' → ¬ (F b' ∧ ¬ F' b')) → Rep w' Z' (.row cs) (d + 1) (List.set xs i z) v (fun b' => (F b' ∧ ¬ F' b') ∨ F'' b') := by
 have hj := (SS.get_at hg).2
 simp only [Rep] at h
 obtain ⟨A, cap, hv, hc, h⟩ := h
 rcases h with ⟨_, _, h, _⟩ | ⟨b, ca, E, fz, G, h1, h2, h3, h4, h5, h6, h7, h8⟩
 ·subst h; simp at hi
 subst h1 h6
 have hgi : cs.get (xs[i]'hi) j = some c := by rw [getD_lt hi] at hg; exact hg
 obtain ⟨v', F', g1, g2, g3, g4⟩ := RepC.focus (h5 i hi) hgi
 have hsz : i * cs.size + j < ca.size := by
  have h9 : (i + 1) * cs.size ≤ cap * cs.size := Nat.mul_le_mul_right _ (by omega)
  rw [Nat.add_mul, Nat.one_mul] at h9
  omega
 refine ⟨b, _, cap, v', F', hv, .inl rfl, fun hb => h7 i hi (g3 b hb), fun b' hb => .inr ⟨i, hi, g3 b' hb⟩, g1, ?_, ⟨ca, E, fz, h2⟩, g2, fun w' Z' y u F'' z hs hsb hf hz hzz hr hd => ?_⟩
 ·simp only [World.frozen?, h2]
  have := h4 _ hsz
  simp only [Bool.and_eq_false_iff, decide_eq_false_iff_not]
  omega
 rw [getD_lt hi] at hs
 have hsb' := hsb
 obtain ⟨c0, c1, E0, fz0, s1, s2, s3, s4, s5⟩ := hsb
 rw [h2] at s1
 obtain ⟨rfl, rfl, rfl⟩ := Obj.cells.inj (Option.some.inj s1)
 have hx := g4 w' Z' y u F'' z hs (fun k hk hkj => hsb'.other (by omega)) hsb'.here (fun b' hb' => hf b' ⟨.inr ⟨i, hi, hb'.1⟩, hb'.2, fun hbb => h7 i hi (hbb ▸ hb'.1)⟩) hz hzz hr
  (fun b' hb' hn => hd b' hb' ⟨.inr ⟨i, hi, hn.1⟩, hn.2⟩)
 simp only [Rep, List.length_set]
 refine ⟨some ⟨b, 0, none⟩, cap, hv, hc, .inr ⟨b, c1, E, fz, fun k => if k = i then (fun b' => (G i b' ∧ ¬ F' b') ∨ F'' b') else G k, rfl, s2, by rw [s3]; exact h3, by rw [s3]; exact h4, fun k hk => ?_, ?_, fun k hk => ?_, fun k l hk hl hkl b' => ?_⟩⟩
 ·by_cases hki : k = i
  ·subst hki
   simp only [if_pos, List.getElem_set_self]
   exact hx
  ·simp only [if_neg hki, List.getElem_set_ne (Ne.symm hki)]
   refine RepC.cells hz (h5 k hk) (fun t ht => hsb'.other fun he => hki (lin hj ht he)) (fun b' hb' => ?_)
   rcases hb' with hb' | hb'
   ·exact hf b' ⟨.inr ⟨k, hk, hb'⟩, fun hb2 => h8 k i hk hi hki b' hb' (g3 b' hb2), fun hbb => h7 k hk (hbb ▸ hb')⟩
   ·exact hzz b' hb'
 ·funext b'
  apply propext
  constructor
  ·rintro (⟨rfl | ⟨k, hk, hb'⟩, hn⟩ | hb')
   ·exact .inl rfl
   ·refine .inr ⟨k, hk, ?_⟩
    by_cases hki : k = i
    ·subst hki; simp only [if_pos]; exact .inl ⟨hb', hn⟩
    ·simp only [if_neg hki]; exact hb'
   ·exact .inr ⟨i, hi, by simp only [if_pos]; exact .inr hb'⟩
  ·rintro (rfl | ⟨k, hk, hb'⟩)
   ·exact .inl ⟨.inl rfl, fun hb2 => h7 i hi (g3 _ hb2)⟩
   ·by_cases hki : k = i
    ·subst hki
     simp only [if_pos] at hb'
     exact hb'.imp (fun h => ⟨.inr ⟨k, hk, h.1⟩, h.2⟩) id
    ·simp only [if_neg hki] at hb'
     exact .inl ⟨.inr ⟨k, hk, hb'⟩, fun hb2 => h8 k i hk hi hki b' hb' (g3 b' hb2)⟩
 ·by_cases hki : k = i
  ·subst hki
   simp only [if_pos]
   rintro (⟨hb', _⟩ | hb')
   ·exact h7 k hk hb'
   ·exact hd b hb' ⟨.inl rfl, fun hb2 => h7 k hk (g3 _ hb2)⟩
  ·simp only [if_neg hki]; exact h7 k hk
 ·by_cases hki : k = i
  ·subst hki
   simp only [if_pos, if_neg (Ne.symm hkl)]
   rintro (⟨hb', _⟩ | hb') hl'
   ·exact h8 k l hk hl hkl b' hb' hl'
   ·exact hd b' hb' ⟨.inr ⟨l, hl, hl'⟩, fun hb2 => h8 k l hk hl hkl b' (g3 b' hb2) hl'⟩
  ·by_cases hli : l = i
   ·subst hli
    simp only [if_neg hki, if_pos]
    rintro hk' (⟨hb', _⟩ | hb')
    ·exact h8 k l hk hl hkl b' hk' hb'
    ·exact hd b' hb' ⟨.inr ⟨k, hk, hk'⟩, fun hb2 => h8 k l hk hl hkl b' hk' (g3 b' hb2)⟩
   ·simp only [if_neg hki, if_neg hli]
    exact h8 k l hk hl hkl b'
def pa (w : World) : S → Value → Way → Option (Nat × Nat)
 | .row cs, .slice (some a) _ _, (i, j) :: st => match st with
  | [] => some (a.block, a.off + i * cs.size + j)
  | x :: st => match w.cell? ⟨a.block, a.off + i * cs.size + j, none⟩, cs.at j with
   | some v, some s => pa w s v (x :: st)
   | _, _ => none
 | _, _, _ => none
def pv (w : World) (s : S) (v : Value) (st : Way) : Option Value := match st with
 | [] => some v
 | x :: st => match pa w s v (x :: st) with
  | some (b, o) => w.cell? ⟨b, o, none⟩
  | none => none
def inR : (s : S) → s.T → Way → Prop
 | _, _, [] => True
 | .row cs, xs, (i, j) :: st => i < List.length xs ∧ ∃ c, cs.get (List.getD xs i cs.d) j = some c ∧ inR c.s c.x st
 | _, _, _ :: _ => False
theorem path_read : ∀ {st : Way} {s : S} {d : Nat} {x : s.T} {v : Value} {F : Fp}, Rep w Z s d x v F → inR s x st →
  ∃ c v' F', getP s x st = some c ∧ pv w s v st = some v' ∧ Rep w Z c.s (d - st.length) c.x v' F' ∧ (∀ b, F' b → F b) ∧
   (st ≠ [] → ∃ b o, pa w s v st = some (b, o) ∧ w.cell? ⟨b, o, none⟩ = some v' ∧ (F b ∨ Z b))
 | [], s, d, x, v, F, h, _ => ⟨⟨s, x⟩, v, F, by cases s <;> rfl, rfl, h, fun _ h => h, fun h => absurd rfl h⟩
 | (i, j) :: st, .row cs, d, xs, v, F, h, hr => by
  simp only [inR] at hr
  obtain ⟨hi, c, hg, hr⟩ := hr
  obtain ⟨a, n, cap, Fi, h1, h2, h3, h4, h5⟩ := h.elem hi
  obtain ⟨v1, F1, g1, g2, g3, _⟩ := RepC.focus h3 hg
  obtain ⟨c', v', F', k1, k2, k3, k4, k5⟩ := path_read (st := st) g2 hr
  have hat := (SS.get_at hg).1
  subst h1
  refine ⟨c', v', F', by simp only [getP, hg]; exact k1, ?_, by rw [List.length_cons, Nat.sub_add_eq, Nat.sub_right_comm] ; exact k3, fun b hb => h5 b (g3 b (k4 b hb)), fun _ => ?_⟩
  ·cases st with
   | nil =>
    simp only [pv, Option.some.injEq] at k2
    subst k2
    simp only [pv, pa]
    exact g1
   | cons y st =>
    simp only [pv] at k2 ⊢
    simp only [pa, g1, hat]
    exact k2
  ·cases st with
   | nil =>
    simp only [pv, Option.some.injEq] at k2
    subst k2
    exact ⟨a.block, a.off + i * cs.size + j, by simp only [pa], g1, h4⟩
   | cons y st =>
    obtain ⟨b, o, q1, q2, q3⟩ := k5 (by simp)
    exact ⟨b, o, by simp only [pa, g1, hat]; exact q1, q2, q3.imp (fun hb => h5 b (g3 b hb)) id⟩
 | _ :: _, .int _, _, _, _, _, _, hr | _ :: _, .bool, _, _, _, _, _, hr | _ :: _, .str, _, _, _, _, _, hr => by simp only [inR] at hr
theorem fp_glue {F F1 F' F'' : Fp} (q1 : ∀ b, F1 b → F b) (q2 : ∀ b, F' b → F1 b) :
  (fun b => (F b ∧ ¬ F1 b) ∨ ((F1 b ∧ ¬ F' b) ∨ F'' b)) = (fun b => (F b ∧ ¬ F' b) ∨ F'' b) := by
 funext b
 have q1 := q1 b
 have q2 := q2 b
 by_cases g1 : F b <;> by_cases g2 : F1 b <;> by_cases g3 : F' b <;> by_cases g4 : F'' b <;> simp_all
theorem getP_nil (s : S) (x : s.T) : getP s x [] = some ⟨s, x⟩ := by cases s <;> rfl
theorem setP_nil (s : S) (x : s.T) (c : CV) : setP s x [] c = c.as s := by cases s <;> rfl
theorem path_write : ∀ {st : Way} {s : S} {d : Nat} {x : s.T} {v : Value} {F : Fp}, Rep w Z s d x v F → inR s x st → st ≠ [] → st.length ≤ d →
  ∃ c v' F' b o, getP s x st = some c ∧ pa w s v st = some (b, o) ∧ F b ∧ ¬ F' b ∧ (∀ b', F' b' → F b') ∧ w.cell? ⟨b, o, none⟩ = some v' ∧ w.frozen? ⟨b, o, none⟩ = false ∧
   (∃ ca E fz, w.heap[b]? = some (.cells ca E fz)) ∧ Rep w Z c.s (d - st.length) c.x v' F' ∧
   ∀ (w' : World) (Z' : Fp) (y : c.s.T) (u : Value) (F'' : Fp) (x' : s.T), setP s x st ⟨c.s, y⟩ = some x' → SameBut w w' b o u →
    (∀ b', F b' ∧ ¬ F' b' ∧ b' ≠ b → w'.heap[b']? = w.heap[b']?) → (∀ b', Z b' → Z' b') → (∀ b', Z b' → w'.heap[b']? = w.heap[b']?) →
    Rep w' Z' c.s (d - st.length) y u F'' → (∀ b', F'' b' → ¬ (F b' ∧ ¬ F' b')) → Rep w' Z' s d x' v (fun b' => (F b' ∧ ¬ F' b') ∨ F'' b')
 | [], _, _, _, _, _, _, _, hne, _ => absurd rfl hne
 | (i, j) :: st, .row cs, 0, xs, v, F, _, _, _, hd => by simp at hd
 | (i, j) :: st, .row cs, d + 1, xs, v, F, h, hr, _, hd => by
  simp only [inR] at hr
  obtain ⟨hi, c, hg, hr⟩ := hr
  obtain ⟨b, n, cap, v1, F1, h1, h2, h3, h4, h5, h6, h7, h8, h9⟩ := h.row_focus hi hg
  have hat := (SS.get_at hg).1
  subst h1
  cases st with
  | nil =>
   refine ⟨c, v1, F1, b, i * cs.size + j, by simp only [getP, hg], by simp only [pa, Nat.zero_add], h2, h3, h4, h5, h6, h7, by simpa using h8, fun w' Z' y u F'' x' hs hsb hf hz hzz hr' hdj => ?_⟩
   simp only [setP, hg, CV.as_self] at hs
   cases hz2 : cs.set (List.getD xs i cs.d) j ⟨c.s, y⟩ with
   | none => rw [hz2] at hs; cases hs
   | some z =>
    rw [hz2] at hs
    have := Option.some.inj hs
    subst this
    exact h9 w' Z' y u F'' z hz2 hsb hf hz hzz (by simpa using hr') hdj
  | cons q st =>
   obtain ⟨c', v', F', b', o', k1, k2, k3, k4, k5, k6, k7, k8, k9, k10⟩ := path_write (st := q :: st) h8 hr (by simp) (by simpa using hd)
   refine ⟨c', v', F', b', o', by simp only [getP, hg]; exact k1, by simp only [pa, Nat.zero_add, h5, hat]; exact k2, h4 b' k3, k4, fun b'' hb => h4 b'' (k5 b'' hb), k6, k7, k8, by
    have e : d + 1 - ((i, j) :: q :: st).length = d - (q :: st).length := by simp only [List.length_cons]; omega
    rw [e]; exact k9, fun w' Z' y u F'' x' hs hsb hf hz hzz hr' hdj => ?_⟩
   have e : d + 1 - ((i, j) :: q :: st).length = d - (q :: st).length := by simp only [List.length_cons]; omega
   rw [e] at hr'
   simp only [setP, hg] at hs
   cases hs1 : setP c.s c.x (q :: st) ⟨c'.s, y⟩ with
   | none => simp only [hs1] at hs; cases hs
   | some y1 =>
    simp only [hs1] at hs
    cases hz2 : cs.set (List.getD xs i cs.d) j ⟨c.s, y1⟩ with
    | none => rw [hz2] at hs; cases hs
    | some z =>
     rw [hz2] at hs
     have := Option.some.inj hs
     subst this
     have hbb : b' ≠ b := fun hb => h3 (hb ▸ k3)
     have hin := k10 w' Z' y u F'' y1 hs1 hsb (fun b'' hb => hf b'' ⟨h4 b'' hb.1, hb.2.1, hb.2.2⟩) hz hzz hr' (fun b'' hb hn => hdj b'' hb ⟨h4 b'' hn.1, hn.2⟩)
     have hout := h9 w' Z' y1 v1 _ z hz2 (SameBut.refl h7.choose_spec.choose_spec.choose_spec h5 (hf b ⟨h2, fun hb => h3 (k5 b hb), fun hb => hbb hb.symm⟩))
      (fun b'' hb => hf b'' ⟨hb.1, fun hb2 => hb.2.1 (k5 b'' hb2), fun hb2 => hb.2.1 (hb2 ▸ k3)⟩) hz hzz hin (fun b'' hb hn => hb.elim (fun h => hn.2 h.1) (fun h => hdj b'' h ⟨hn.1, fun hb2 => hn.2 (k5 b'' hb2)⟩))
     have e2 : (fun b'' => (F b'' ∧ ¬ F1 b'') ∨ ((F1 b'' ∧ ¬ F' b'') ∨ F'' b'')) = (fun b'' => (F b'' ∧ ¬ F' b'') ∨ F'' b'') := fp_glue h4 k5
     rw [e2] at hout
     exact hout
 | _ :: _, .int _, _, _, _, _, _, hr, _, _ | _ :: _, .bool, _, _, _, _, _, hr, _, _ | _ :: _, .str, _, _, _, _, _, hr, _, _ => by simp only [inR] at hr
end Go.PV

namespace Go.PV
inductive Site where
 | cell (id j : Nat)
 | box (id : Nat)
 | det (k : Nat)
abbrev Own := Nat → Option Site
def undefV : Value := .tuple #[]
def rootVal (w : World) (r : Root) (g : Value) (j : Nat) : Option Value := match r.virt with
 | true => match j with
  | 0 => some g
  | _ => none
 | false => match g with
  | .pointer (some a) => w.cell? ⟨a.block, j, none⟩
  | _ => none
def cutV (cut : Option Nat) (v : Value) : Value := match cut, v with
 | some n, .slice a _ cap => .slice a n cap
 | _, v => v
def inRA : (s : S) → s.T → Way → Prop
 | _, _, [] => True
 | .row cs, xs, (i, j) :: st => i < List.length xs ∧ (match st with
  | [] => True
  | y :: st => ∃ c, cs.get (List.getD xs i cs.d) j = some c ∧ inRA c.s c.x (y :: st))
 | _, _, _ :: _ => False
def RefOk (w : World) (rv : Value) (x : VC) (st : Way) (cut : Option Nat) (v : Value) : Prop := match x.c with
 | .mk _ c => ∃ v0 cs xs, inR c.s c.x st ∧ pv w c.s rv st = some v0 ∧ getP c.s c.x st = some ⟨.row cs, xs⟩ ∧ (∀ n, cut = some n → n ≤ List.length xs) ∧ v = cutV cut v0
 | .lk _ => False
 | _ => st = [] ∧ v = cutV cut rv
def AddrOk (w : World) (rv : Value) (x : VC) (st : Way) (v : Value) : Prop := match x.c with
 | .mk _ c => ∃ b o, inRA c.s c.x st ∧ pa w c.s rv st = some (b, o) ∧ v = .pointer (some ⟨b, o, none⟩)
 | _ => False
def isSlice : Value → Prop
 | .slice .. => True
 | _ => False
def isPtr : Value → Prop
 | .pointer (some _) => True
 | _ => False
def PRep1 (rt : Rt) (w : World) (γ : Nat → Value) (Z : Fp) : P → Value → Prop
 | .dead, _ => True
 | .und, v => v = undefV
 | .e, v => v = .slice none 0 0
 | .cv c, v => Rep w Z c.s 0 c.x v nil'
 | .ra cs xs i j, v => ∃ sv b o, Rep w Z (.row cs) 0 xs sv nil' ∧ i < List.length xs ∧ pa w (.row cs) sv [(i, j)] = some (b, o) ∧ v = .pointer (some ⟨b, o, none⟩)
 | .ref id j st cut n, v => ∃ r x rv, rt id = some r ∧ r.cells[j]? = some x ∧ rootVal w r (γ id) j = some rv ∧ (n ≤ x.ver st ∧ isSlice v) ∧ (n = x.ver st → RefOk w rv x st cut v)
 | .addr id j st n, v => ∃ r, rt id = some r ∧ (match st with
  | [] => r.virt = false ∧ ∃ b, γ id = .pointer (some ⟨b, 0, none⟩) ∧ v = .pointer (some ⟨b, j, none⟩)
  | y :: st => ∃ x rv, r.cells[j]? = some x ∧ rootVal w r (γ id) j = some rv ∧ (n ≤ x.iv ∧ isPtr v) ∧ (n = x.iv → AddrOk w rv x (y :: st) v))
 | .agg _, _ => False
 | .tup _, _ => False
def PRepA (rt : Rt) (w : World) (γ : Nat → Value) (Z : Fp) : P → Value → Prop
 | .agg l, v => ∃ vs : Array Value, v = .agg vs ∧ vs.size = l.length ∧ ∀ (i : Nat) p u, l[i]? = some p → vs[i]? = some u → PRep1 rt w γ Z p u
 | p, v => PRep1 rt w γ Z p v
def PRep (rt : Rt) (w : World) (γ : Nat → Value) (Z : Fp) : P → Value → Prop
 | .tup l, v => ∃ vs : Array Value, v = .tuple vs ∧ vs.size = l.length ∧ ∀ (i : Nat) p u, l[i]? = some p → vs[i]? = some u → PRepA rt w γ Z p u
 | p, v => PRepA rt w γ Z p v
def CellOk (rt : Rt) (w : World) (γ : Nat → Value) (O : Own) (Z : Fp) (id j : Nat) (rv : Value) : Cell → Prop
 | .mk d c => Rep w Z c.s d c.x rv (fun b => O b = some (.cell id j))
 | .lk c => Rep w Z c.s 0 c.x rv nil' ∧ ∀ b, O b ≠ some (.cell id j)
 | .any => ∀ b, O b ≠ some (.cell id j)
 | .al id2 j2 st2 cut v2 => (∀ b, O b ≠ some (.cell id j)) ∧ PRep1 rt w γ Z (.ref id2 j2 st2 cut v2) rv
structure RootOk (rt : Rt) (w : World) (γ : Nat → Value) (O : Own) (Z : Fp) (id : Nat) (r : Root) : Prop where
 virt : r.virt = true → r.cells.length = 1 ∧ ∀ b, O b ≠ some (.box id)
 box : r.virt = false → ∃ b c E fz, γ id = .pointer (some ⟨b, 0, none⟩) ∧ w.heap[b]? = some (.cells c E fz) ∧ c.size = r.cells.length ∧ free fz c.size ∧ ∀ b', O b' = some (.box id) ↔ b' = b
 cell : ∀ (j : Nat) x, r.cells[j]? = some x → ∃ rv, rootVal w r (γ id) j = some rv ∧ CellOk rt w γ O Z id j rv x.c
 beyond : ∀ j, r.cells.length ≤ j → ∀ b, O b ≠ some (.cell id j)
structure Inv (rt : Rt) (w : World) (γ : Nat → Value) (O : Own) (Z : Fp) : Prop where
 root : ∀ id r, rt id = some r → RootOk rt w γ O Z id r
 zo : ∀ b, Z b → O b = none
 zs : ∀ b, Z b → b < w.heap.size
 os : ∀ b s, O b = some s → b < w.heap.size
 oi : ∀ b id j, O b = some (.cell id j) → rt id ≠ none
 ob : ∀ b id, O b = some (.box id) → rt id ≠ none
theorem pa_frame {w w' : World} {Z : Fp} : ∀ {st : Way} {s : S} {d : Nat} {x : s.T} {v : Value} {F : Fp}, Rep w Z s d x v F → inRA s x st →
  (∀ b, F b ∨ Z b → w'.heap[b]? = w.heap[b]?) → pa w' s v st = pa w s v st
 | [], s, _, _, v, _, _, _, _ => by cases s <;> cases v <;> first | rfl | simp [pa]
 | [(i, j)], .row cs, d, xs, v, F, h, hr, hw => by cases v <;> first | rfl | (rename_i a _ _; cases a <;> simp [pa])
 | (i, j) :: y :: st, .row cs, d, xs, v, F, h, hr, hw => by
  simp only [inRA] at hr
  obtain ⟨hi, c, hg, hr⟩ := hr
  obtain ⟨a, n, cap, Fi, h1, h2, h3, h4, h5⟩ := h.elem hi
  obtain ⟨v1, F1, g1, g2, g3, _⟩ := RepC.focus h3 hg
  subst h1
  have hc : w'.cell? ⟨a.block, a.off + i * cs.size + j, none⟩ = w.cell? ⟨a.block, a.off + i * cs.size + j, none⟩ := cell_of_heap (hw _ h4)
  have ih := pa_frame (w' := w') (st := y :: st) g2 hr fun b hb => hw b (hb.imp (fun hb => h5 b (g3 b hb)) id)
  simp only [pa, hc, g1, (SS.get_at hg).1]
  exact ih
 | _ :: _, .int _, _, _, _, _, _, hr, _ | _ :: _, .bool, _, _, _, _, _, hr, _ | _ :: _, .str, _, _, _, _, _, hr, _ => by simp only [inRA] at hr
theorem inR_RA : ∀ {st : Way} {s : S} {x : s.T}, inR s x st → inRA s x st
 | [], _, _, _ => by simp only [inRA]
 | [(i, j)], .row cs, xs, h => by simp only [inR] at h; simp only [inRA]; exact ⟨h.1, trivial⟩
 | (i, j) :: y :: st, .row cs, xs, h => by
  rw [inR] at h
  obtain ⟨h1, c, h2, h3⟩ := h
  simp only [inRA]
  exact ⟨h1, c, h2, inR_RA h3⟩
 | _ :: _, .int _, _, h | _ :: _, .bool, _, h | _ :: _, .str, _, h => by simp only [inR] at h
theorem inRA_R : ∀ {st : Way} {s : S} {x : s.T} {c : CV}, inRA s x st → getP s x st = some c → inR s x st
 | [], _, _, _, _, _ => by simp only [inR]
 | [(i, j)], .row cs, xs, c, h, hg => by
  simp only [inRA] at h
  simp only [getP] at hg
  simp only [inR]
  cases hc : cs.get (List.getD xs i cs.d) j with
  | none => rw [hc] at hg; cases hg
  | some c0 => exact ⟨h.1, c0, rfl, trivial⟩
 | (i, j) :: y :: st, .row cs, xs, c, h, hg => by
  simp only [inRA] at h
  obtain ⟨h1, c0, h2, h3⟩ := h
  rw [inR]
  refine ⟨h1, c0, h2, inRA_R (c := c) h3 ?_⟩
  rw [getP, h2] at hg
  exact hg
 | _ :: _, .int _, _, _, h, _ | _ :: _, .bool, _, _, h, _ | _ :: _, .str, _, _, h, _ => by simp only [inRA] at h
theorem pv_frame {w w' : World} {Z : Fp} {st : Way} {s : S} {d : Nat} {x : s.T} {v : Value} {F : Fp} (h : Rep w Z s d x v F) (hr : inR s x st)
  (hw : ∀ b, F b ∨ Z b → w'.heap[b]? = w.heap[b]?) : pv w' s v st = pv w s v st := by
 cases st with
 | nil => rfl
 | cons y st =>
  obtain ⟨_, _, _, _, _, _, _, hne⟩ := path_read h hr
  obtain ⟨b, o, h1, h2, h3⟩ := hne (by simp)
  simp only [pv, pa_frame h (inR_RA hr) hw, h1]
  exact cell_of_heap (hw b h3)
structure Cf where
 rt : Rt
 w : World
 γ : Nat → Value
 O : Own
 Z : Fp
abbrev Cf.Inv (c : Cf) : Prop := PV.Inv c.rt c.w c.γ c.O c.Z
abbrev Cf.P1 (c : Cf) : P → Value → Prop := PRep1 c.rt c.w c.γ c.Z
def SameEnv (w w' : World) : Prop := w'.os = w.os ∧ w'.tape = w.tape ∧ w'.output = w.output
theorem SameEnv.refl (w : World) : SameEnv w w := ⟨rfl, rfl, rfl⟩
theorem SameEnv.trans {a b c : World} (h : SameEnv a b) (k : SameEnv b c) : SameEnv a c := ⟨k.1.trans h.1, k.2.1.trans h.2.1, k.2.2.trans h.2.2⟩
structure Ext (c c' : Cf) : Prop where
 size : c.w.heap.size ≤ c'.w.heap.size
 same : ∀ b, b < c.w.heap.size → c.O b = none → c'.w.heap[b]? = c.w.heap[b]? ∧ c'.O b = none
 z : ∀ b, c.Z b → c'.Z b
 z' : ∀ b, c'.Z b → c.Z b ∨ c.O b ≠ none ∨ c.w.heap.size ≤ b
 ids : ∀ id, c.rt id ≠ none → c'.rt id ≠ none
 env : SameEnv c.w c'.w
def Cf.lkAt (c : Cf) (id j : Nat) (v : Value) : Prop := ∃ r x k, c.rt id = some r ∧ r.cells[j]? = some x ∧ x.c = .lk k ∧ rootVal c.w r (c.γ id) j = some v
structure To (c c' : Cf) : Prop where
 inv : c'.Inv
 lk : ∀ id j v, c.lkAt id j v → c'.lkAt id j v
 stb : ∀ p v, c.P1 p v → c'.P1 p v
 ext : Ext c c'
theorem Ext.refl (c : Cf) : Ext c c := ⟨Nat.le_refl _, fun _ _ h => ⟨rfl, h⟩, fun _ h => h, fun _ h => .inl h, fun _ h => h, SameEnv.refl _⟩
theorem Ext.trans {a b c : Cf} (h : Ext a b) (k : Ext b c) : Ext a c where
 size := Nat.le_trans h.size k.size
 same x hx hn := by
  obtain ⟨h1, h2⟩ := h.same x hx hn
  obtain ⟨k1, k2⟩ := k.same x (Nat.lt_of_lt_of_le hx h.size) h2
  exact ⟨k1.trans h1, k2⟩
 z x hx := k.z x (h.z x hx)
 z' x hx := by
  rcases k.z' x hx with h1 | h1 | h1
  ·exact h.z' x h1
  ·by_cases hl : x < a.w.heap.size
   ·by_cases hn : a.O x = none
    ·exact absurd (h.same x hl hn).2 h1
    ·exact .inr (.inl hn)
   ·exact .inr (.inr (by omega))
  ·exact .inr (.inr (Nat.le_trans h.size h1))
 ids x hx := k.ids x (h.ids x hx)
 env := h.env.trans k.env
theorem To.refl {c : Cf} (h : c.Inv) : To c c := ⟨h, fun _ _ _ h => h, fun _ _ h => h, Ext.refl c⟩
theorem To.trans {a b c : Cf} (h : To a b) (k : To b c) : To a c := ⟨k.inv, fun i j v hp => k.lk i j v (h.lk i j v hp), fun p v hp => k.stb p v (h.stb p v hp), h.ext.trans k.ext⟩
structure CellCh (w w' : World) (rv rv' : Value) (x x' : VC) : Prop where
 hv : x.hv ≤ x'.hv
 iv : x.iv ≤ x'.iv
 head : x'.hv = x.hv → ∀ cut v, RefOk w rv x [] cut v → RefOk w' rv' x' [] cut v
 refs : x'.iv = x.iv → ∀ y st cut v, RefOk w rv x (y :: st) cut v → RefOk w' rv' x' (y :: st) cut v
 addrs : x'.iv = x.iv → ∀ y st v, AddrOk w rv x (y :: st) v → AddrOk w' rv' x' (y :: st) v
 lk : ∀ k, x.c = .lk k → x'.c = .lk k ∧ rv' = rv
structure Chg (c c' : Cf) : Prop where
 z : ∀ b, c.Z b → c'.Z b
 zh : ∀ b, c.Z b → c'.w.heap[b]? = c.w.heap[b]?
 rt : ∀ id r, c.rt id = some r → ∃ r', c'.rt id = some r' ∧ r'.virt = r.virt ∧ c'.γ id = c.γ id ∧ ∀ (j : Nat) x rv, r.cells[j]? = some x → rootVal c.w r (c.γ id) j = some rv →
  ∃ x' rv', r'.cells[j]? = some x' ∧ rootVal c'.w r' (c.γ id) j = some rv' ∧ CellCh c.w c'.w rv rv' x x'
theorem Chg.stb {c c' : Cf} (h : Chg c c') : ∀ p v, c.P1 p v → c'.P1 p v := by
 intro p v hp
 cases p with
 | dead => trivial
 | und => exact hp
 | e => exact hp
 | cv k => exact hp.frame h.z fun b hb => h.zh b (hb.elim (fun h => h.elim) id)
 | ra cs xs i j =>
  obtain ⟨sv, b, o, h1, h2, h3, h4⟩ := hp
  refine ⟨sv, b, o, h1.frame h.z fun b hb => h.zh b (hb.elim (fun h => h.elim) id), h2, ?_, h4⟩
  rw [pa_frame h1 (by simp only [inRA]; exact ⟨h2, trivial⟩) fun b hb => h.zh b (hb.elim (fun h => h.elim) id)]
  exact h3
 | ref id j st cut n =>
  obtain ⟨r, x, rv, h1, h2, h3, h4, h5⟩ := hp
  obtain ⟨r', k1, k2, k3, k4⟩ := h.rt id r h1
  obtain ⟨x', rv', k5, k6, k7⟩ := k4 j x rv h2 h3
  refine ⟨r', x', rv', k1, k5, by rw [k3]; exact k6, ?_, fun hn => ?_⟩
  ·cases st with
   | nil => exact ⟨Nat.le_trans h4.1 k7.hv, h4.2⟩
   | cons y st => exact ⟨Nat.le_trans h4.1 k7.iv, h4.2⟩
  ·cases st with
   | nil =>
    simp only [VC.ver] at *
    have e : n = x.hv := by have := k7.hv; have := h4.1; omega
    exact k7.head (by omega) cut v (h5 e)
   | cons y st =>
    simp only [VC.ver] at *
    have e : n = x.iv := by have := k7.iv; have := (by first | exact h4.1 | exact h5.1 : n ≤ x.iv); omega
    exact k7.refs (by omega) y st cut v (h5 e)
 | addr id j st n =>
  obtain ⟨r, h1, h2⟩ := hp
  obtain ⟨r', k1, k2, k3, k4⟩ := h.rt id r h1
  refine ⟨r', k1, ?_⟩
  cases st with
  | nil =>
   obtain ⟨h3, b, h4, h5⟩ := h2
   exact ⟨k2.trans h3, b, k3.trans h4, h5⟩
  | cons y st =>
   obtain ⟨x, rv, h3, h4, h5, h6⟩ := h2
   obtain ⟨x', rv', k5, k6, k7⟩ := k4 j x rv h3 h4
   refine ⟨x', rv', k5, by rw [k3]; exact k6, ⟨Nat.le_trans h5.1 k7.iv, h5.2⟩, fun hn => ?_⟩
   have e : n = x.iv := by have := k7.iv; have := (by first | exact h4.1 | exact h5.1 : n ≤ x.iv); omega
   exact k7.addrs (by omega) y st v (h6 e)
 | agg l => exact hp.elim
 | tup l => exact hp.elim
theorem Chg.lk {c c' : Cf} (h : Chg c c') : ∀ id j v, c.lkAt id j v → c'.lkAt id j v := by
 rintro id j v ⟨r, x, k, h1, h2, h3, h4⟩
 obtain ⟨r', g1, g2, g3, g4⟩ := h.rt id r h1
 obtain ⟨x', rv', e1, e2, e3⟩ := g4 j x v h2 h4
 obtain ⟨e4, rfl⟩ := e3.lk k h3
 exact ⟨r', x', k, g1, e1, e4, by rw [g3]; exact e2⟩
theorem CellCh.bump {w w' : World} {rv rv' : Value} {x x' : VC} (h1 : x.hv < x'.hv) (h2 : x.iv < x'.iv) (h3 : ∀ k, x.c ≠ .lk k) : CellCh w w' rv rv' x x' :=
 ⟨by omega, by omega, fun h => by omega, fun h => by omega, fun h => by omega, fun k h => absurd h (h3 k)⟩
theorem CellCh.same {w w' : World} {rv : Value} {x : VC} {Z : Fp} {F : Fp} (h : ∀ d c, x.c = .mk d c → Rep w Z c.s d c.x rv F) (hw : ∀ b, F b ∨ Z b → w'.heap[b]? = w.heap[b]?) : CellCh w w' rv rv x x := by
 have key : ∀ st cut v, RefOk w rv x st cut v → RefOk w' rv x st cut v := by
  intro st cut v hr
  unfold RefOk at *
  cases hc : x.c with
  | mk d c =>
   simp only [hc] at hr ⊢
   obtain ⟨v0, cs, xs, h1, h2, h3⟩ := hr
   exact ⟨v0, cs, xs, h1, (pv_frame (h d c hc) h1 hw).trans h2, h3⟩
  | al => simp only [hc] at hr ⊢; exact hr
  | any => simp only [hc] at hr ⊢; exact hr
  | lk => simp only [hc] at hr
 refine ⟨Nat.le_refl _, Nat.le_refl _, fun _ => key [], fun _ y st => key (y :: st), fun _ y st v hr => ?_, fun _ h => ⟨h, rfl⟩⟩
 unfold AddrOk at *
 cases hc : x.c with
 | mk d c =>
  simp only [hc] at hr ⊢
  obtain ⟨b, o, h1, h2, h3⟩ := hr
  exact ⟨b, o, h1, (pa_frame (h d c hc) h1 hw).trans h2, h3⟩
 | al => simp only [hc] at hr
 | any => simp only [hc] at hr
 | lk => simp only [hc] at hr
theorem CellCh.taken {w : World} {rv : Value} {hv iv d : Nat} {c : CV} : CellCh w w rv rv ⟨hv, iv, .mk d c⟩ ⟨hv, iv + 1, .any⟩ := by
 refine ⟨Nat.le_refl _, Nat.le_succ _, fun _ cut v hr => ?_, fun h => by simp at h, fun h => by simp at h, fun _ h => by cases h⟩
 unfold RefOk at *
 obtain ⟨v0, cs, xs, h1, h2, h3, h4, h5⟩ := hr
 simp only [pv, Option.some.injEq] at h2
 subst h2
 exact ⟨rfl, h5⟩
theorem CellCh.forward {w : World} {rv : Value} {hv iv : Nat} {id j : Nat} {st : Way} {cut : Option Nat} {n : Nat} : CellCh w w rv rv ⟨hv, iv, .any⟩ ⟨hv, iv, .al id j st cut n⟩ :=
 ⟨Nat.le_refl _, Nat.le_refl _, fun _ _ _ hr => hr, fun _ _ _ _ _ hr => hr, fun _ _ _ _ hr => hr.elim, fun _ h => by cases h⟩
theorem CellCh.weaken {w : World} {rv : Value} {hv iv d d' : Nat} {c : CV} : CellCh w w rv rv ⟨hv, iv, .mk d c⟩ ⟨hv, iv, .mk d' c⟩ :=
 ⟨Nat.le_refl _, Nat.le_refl _, fun _ _ _ h => h, fun _ _ _ _ _ h => h, fun _ _ _ _ h => h, fun _ h => by cases h⟩
def Sm (c : Cf) (w' : World) : Prop := c.w.heap.size ≤ w'.heap.size ∧ ∀ b, (c.Z b ∨ ∃ s, c.O b = some s ∧ ∀ k, s ≠ .det k) → w'.heap[b]? = c.w.heap[b]?
theorem Inv.rootVal_same {c : Cf} (h : c.Inv) {w' : World} (hs : Sm c w') {id : Nat} {r : Root} (hr : c.rt id = some r) (j : Nat) :
  rootVal w' r (c.γ id) j = rootVal c.w r (c.γ id) j := by
 unfold rootVal
 cases hv : r.virt with
 | true => rfl
 | false =>
  obtain ⟨b, ca, E, fz, h1, h2, h3, h4, h5⟩ := (h.root id r hr).box hv
  simp only [h1]
  exact cell_of_heap (hs.2 b (.inr ⟨.box id, (h5 b).2 rfl, fun k => by simp⟩))
theorem Chg.world {c : Cf} (h : c.Inv) {w' : World} (hs : Sm c w') : Chg c { c with w := w' } where
 z _ h := h
 zh b hb := hs.2 b (.inl hb)
 rt id r hr := ⟨r, hr, rfl, rfl, fun j x rv hx hv => ⟨x, rv, hx, (h.rootVal_same hs hr j).trans hv, by
  obtain ⟨rv', h1, h2⟩ := (h.root id r hr).cell j x hx
  rw [hv] at h1
  obtain rfl := Option.some.inj h1
  refine CellCh.same (Z := c.Z) (F := fun b => c.O b = some (.cell id j)) (fun d k hk => ?_) fun b hb => hs.2 b (hb.elim (fun h => .inr ⟨_, h, fun k => by simp⟩) .inl)
  rw [hk] at h2
  exact h2⟩⟩
theorem Inv.world {c : Cf} (h : c.Inv) {w' : World} (hs : Sm c w') : Cf.Inv { c with w := w' } where
 root id r hr := by
  have hk := h.root id r hr
  refine ⟨hk.virt, fun hv => ?_, fun j x hx => ?_, hk.beyond⟩
  ·obtain ⟨b, ca, E, fz, h1, h2, h3, h4, h5⟩ := hk.box hv
   exact ⟨b, ca, E, fz, h1, (hs.2 b (.inr ⟨.box id, (h5 b).2 rfl, fun k => by simp⟩)).trans h2, h3, h4, h5⟩
  ·obtain ⟨rv, h1, h2⟩ := hk.cell j x hx
   refine ⟨rv, (h.rootVal_same hs hr j).trans h1, ?_⟩
   cases hc : x.c with
   | mk d k => rw [hc] at h2; exact h2.frame (fun _ h => h) fun b hb => hs.2 b (hb.elim (fun h => .inr ⟨_, h, fun k => by simp⟩) .inl)
   | lk k => rw [hc] at h2; exact ⟨h2.1.frame (fun _ h => h) fun b hb => hs.2 b (hb.elim (fun h => h.elim) .inl), h2.2⟩
   | any => rw [hc] at h2; exact h2
   | al id2 j2 st2 cut v2 => rw [hc] at h2; exact ⟨h2.1, (Chg.world h hs).stb _ _ h2.2⟩
 zo := h.zo
 zs b hb := Nat.lt_of_lt_of_le (h.zs b hb) hs.1
 os b s hb := Nat.lt_of_lt_of_le (h.os b s hb) hs.1
 oi := h.oi
 ob := h.ob
theorem To.world {c : Cf} (h : c.Inv) {w' : World} (hs : Sm c w') (hu : ∀ b, b < c.w.heap.size → c.O b = none → w'.heap[b]? = c.w.heap[b]?) (he : SameEnv c.w w') : To c { c with w := w' } :=
 ⟨h.world hs, (Chg.world h hs).lk, (Chg.world h hs).stb, hs.1, fun b hb hn => ⟨hu b hb hn, hn⟩, fun _ h => h, fun _ h => .inl h, fun _ h => h, he⟩
end Go.PV

namespace Go.PV
theorem setRt_self {rt : Rt} {id : Nat} {r : Root} : setRt rt id r id = some r := by simp [setRt, upd]
theorem setRt_ne {rt : Rt} {id i : Nat} {r : Root} (h : i ≠ id) : setRt rt id r i = rt i := by
 simp only [setRt, upd]
 rw [show Nat.beq i id = false by rw [← Bool.not_eq_true, Nat.beq_eq]; exact h]
 rfl
theorem setRt_some {rt : Rt} {id i : Nat} {r : Root} (h : rt i ≠ none) : setRt rt id r i ≠ none := by
 by_cases hi : i = id
 ·subst hi; rw [setRt_self]; simp
 ·rw [setRt_ne hi]; exact h
structure Put (c : Cf) (id j : Nat) (r : Root) (w' : World) (O' : Own) (Z' : Fp) : Prop where
 size : c.w.heap.size ≤ w'.heap.size
 own : ∀ b s, s ≠ .cell id j → (∀ k, s ≠ .det k) → (O' b = some s ↔ c.O b = some s)
 os : ∀ b s, O' b = some s → b < w'.heap.size
 z : ∀ b, c.Z b → Z' b
 z' : ∀ b, Z' b → c.Z b ∨ c.O b ≠ none ∨ c.w.heap.size ≤ b
 zo : ∀ b, Z' b → O' b = none
 zs : ∀ b, Z' b → b < w'.heap.size
 heap : ∀ b, (c.Z b ∨ ∃ s, c.O b = some s ∧ (∀ k, s ≠ .det k) ∧ s ≠ .cell id j ∧ s ≠ .box id) → w'.heap[b]? = c.w.heap[b]?
 nobody : ∀ b, b < c.w.heap.size → c.O b = none → w'.heap[b]? = c.w.heap[b]? ∧ O' b = none
 box : r.virt = false → ∀ b, c.O b = some (.box id) → ∃ ca ca' E fz, c.w.heap[b]? = some (.cells ca E fz) ∧ w'.heap[b]? = some (.cells ca' E fz) ∧ ca'.size = ca.size ∧ ∀ i, i ≠ j → ca'[i]? = ca[i]?
 env : SameEnv c.w w'
theorem Put.own_eq {c : Cf} {id j : Nat} {r : Root} {w' : World} {O' : Own} {Z' : Fp} (h : Put c id j r w' O' Z') {i k : Nat} (hne : ¬ (i = id ∧ k = j)) :
  (fun b => O' b = some (.cell i k)) = (fun b => c.O b = some (.cell i k)) := by
 funext b
 exact propext (h.own b _ (by intro he; simp only [Site.cell.injEq] at he; exact hne he) (by simp))
theorem Put.rootVal {c : Cf} {id j : Nat} {r : Root} {w' : World} {O' : Own} {Z' : Fp} (hc : c.Inv) (hr : c.rt id = some r) (h : Put c id j r w' O' Z') {i k : Nat} {q : Root} (hq : c.rt i = some q)
  (hne : ¬ (i = id ∧ k = j)) : PV.rootVal w' q (c.γ i) k = PV.rootVal c.w q (c.γ i) k := by
 unfold PV.rootVal
 cases hv : q.virt with
 | true => rfl
 | false =>
  obtain ⟨b, ca, E, fz, h1, h2, h3, h4, h5⟩ := (hc.root i q hq).box hv
  simp only [h1]
  by_cases hi : i = id
  ·subst hi
   rw [hr] at hq
   obtain rfl := Option.some.inj hq
   obtain ⟨a1, a2, E1, fz1, k1, k2, k3, k4⟩ := h.box hv b ((h5 b).2 rfl)
   simp only [World.cell?, k1, k2]
   simpa using k4 k (fun e => hne ⟨rfl, e⟩)
  ·exact cell_of_heap (h.heap b (.inr ⟨.box i, (h5 b).2 rfl, by simp, by simp, by simpa using hi⟩))
abbrev Cf.put (c : Cf) (id j : Nat) (r : Root) (x' : VC) (w' : World) (O' : Own) (Z' : Fp) : Cf := ⟨setRt c.rt id ⟨r.virt, r.cells.set j x'⟩, w', c.γ, O', Z'⟩
theorem Put.chg {c : Cf} (hc : c.Inv) {id j : Nat} {r : Root} {x x' : VC} {w' : World} {O' : Own} {Z' : Fp} (hr : c.rt id = some r) (hx : r.cells[j]? = some x) (h : Put c id j r w' O' Z')
  (hcell : ∃ rv', PV.rootVal w' r (c.γ id) j = some rv') (hch : ∀ rv rv', PV.rootVal c.w r (c.γ id) j = some rv → PV.rootVal w' r (c.γ id) j = some rv' → CellCh c.w w' rv rv' x x') : Chg c (c.put id j r x' w' O' Z') where
 z := h.z
 zh b hb := h.heap b (.inl hb)
 rt i q hq := by
  have same : ∀ k y rv, ¬ (i = id ∧ k = j) → q.cells[k]? = some y → PV.rootVal c.w q (c.γ i) k = some rv → CellCh c.w w' rv rv y y := fun k y rv hne hy hv => by
   obtain ⟨rv', h1, h2⟩ := (hc.root i q hq).cell k y hy
   rw [hv] at h1
   obtain rfl := Option.some.inj h1
   refine CellCh.same (Z := c.Z) (F := fun b => c.O b = some (.cell i k)) (fun d e he => by rw [he] at h2; exact h2) fun b hb => h.heap b ?_
   exact hb.symm.imp (fun h => h) fun hb => ⟨_, hb, by simp, by intro he; simp only [Site.cell.injEq] at he; exact hne he, by simp⟩
  by_cases hi : i = id
  ·subst hi
   rw [hr] at hq
   obtain rfl := Option.some.inj hq
   refine ⟨_, setRt_self, rfl, rfl, fun k y rv hy hv => ?_⟩
   by_cases hk : k = j
   ·subst hk
    rw [hx] at hy
    obtain rfl := Option.some.inj hy
    obtain ⟨rv', h1⟩ := hcell
    have hlt := (List.getElem?_eq_some_iff.1 hx).1
    exact ⟨x', rv', by simp [List.getElem?_set_self hlt], h1, hch rv rv' hv h1⟩
   ·exact ⟨y, rv, by rw [List.getElem?_set_ne (Ne.symm hk)]; exact hy, (h.rootVal hc hr hr (fun e => hk e.2)).trans hv, same k y rv (fun e => hk e.2) hy hv⟩
  ·exact ⟨q, (setRt_ne hi).trans hq, rfl, rfl, fun k y rv hy hv => ⟨y, rv, hy, (h.rootVal hc hr hq (fun e => hi e.1)).trans hv, same k y rv (fun e => hi e.1) hy hv⟩⟩
theorem Put.to {c : Cf} (hc : c.Inv) {id j : Nat} {r : Root} {x x' : VC} {w' : World} {O' : Own} {Z' : Fp} (hr : c.rt id = some r) (hx : r.cells[j]? = some x) (h : Put c id j r w' O' Z')
  (hcell : (∀ p v, c.P1 p v → (c.put id j r x' w' O' Z').P1 p v) → ∃ rv', PV.rootVal w' r (c.γ id) j = some rv' ∧ CellOk (c.put id j r x' w' O' Z').rt w' c.γ O' Z' id j rv' x'.c)
  (hval : ∃ rv', PV.rootVal w' r (c.γ id) j = some rv')
  (hch : ∀ rv rv', PV.rootVal c.w r (c.γ id) j = some rv → PV.rootVal w' r (c.γ id) j = some rv' → CellCh c.w w' rv rv' x x') : To c (c.put id j r x' w' O' Z') := by
 have chg := Put.chg hc hr hx h hval hch
 have stb := chg.stb
 refine ⟨⟨fun i q hq => ?_, h.zo, h.zs, h.os, fun b i k hb => ?_, fun b i hb => ?_⟩, chg.lk, stb, h.size, h.nobody, h.z, h.z', fun i hi => setRt_some hi, h.env⟩
 ·
  have cells : ∀ q0, c.rt i = some q0 → ∀ k y, ¬ (i = id ∧ k = j) → q0.cells[k]? = some y → ∃ rv, PV.rootVal w' q0 (c.γ i) k = some rv ∧ CellOk (c.put id j r x' w' O' Z').rt w' c.γ O' Z' i k rv y.c := fun q0 hq0 k y hne hy => by
   obtain ⟨rv, h1, h2⟩ := (hc.root i q0 hq0).cell k y hy
   refine ⟨rv, (h.rootVal hc hr hq0 hne).trans h1, ?_⟩
   have e := h.own_eq hne
   have hn : (∀ b, c.O b ≠ some (.cell i k)) → ∀ b, O' b ≠ some (.cell i k) := fun hn b hb => hn b ((h.own b _ (by intro he; simp only [Site.cell.injEq] at he; exact hne he) (by simp)).1 hb)
   cases hcy : y.c with
   | mk d e0 =>
    rw [hcy] at h2
    show Rep w' Z' e0.s d e0.x rv (fun b => O' b = some (.cell i k))
    rw [e]
    refine h2.frame h.z fun b hb => h.heap b (hb.symm.imp (fun h => h) fun hb => ⟨_, hb, by simp, by intro he; simp only [Site.cell.injEq] at he; exact hne he, by simp⟩)
   | lk e0 => rw [hcy] at h2; exact ⟨h2.1.frame h.z fun b hb => h.heap b (hb.elim (fun h => h.elim) .inl), hn h2.2⟩
   | any => rw [hcy] at h2; exact hn h2
   | al => rw [hcy] at h2; exact ⟨hn h2.1, stb _ _ h2.2⟩
  by_cases hi : i = id
  ·subst hi
   rw [show (c.put i j r x' w' O' Z').rt i = some ⟨r.virt, r.cells.set j x'⟩ from setRt_self] at hq
   obtain rfl := Option.some.inj hq
   have hk := hc.root i r hr
   refine ⟨fun hv => ?_, fun hv => ?_, fun k y hy => ?_, fun k hk2 b hb => ?_⟩
   ·obtain ⟨h1, h2⟩ := hk.virt hv
    exact ⟨by simpa using h1, fun b hb => h2 b ((h.own b _ (by simp) (by simp)).1 hb)⟩
   ·obtain ⟨b, ca, E, fz, h1, h2, h3, h4, h5⟩ := hk.box hv
    obtain ⟨a1, a2, E1, fz1, k1, k2, k3, k4⟩ := h.box hv b ((h5 b).2 rfl)
    rw [h2] at k1
    obtain ⟨rfl, rfl, rfl⟩ := Obj.cells.inj (Option.some.inj k1)
    exact ⟨b, a2, E, fz, h1, k2, by rw [k3, h3]; simp, by rw [k3]; exact h4, fun b' => (h.own b' _ (by simp) (by simp)).trans (h5 b')⟩
   ·by_cases hkj : k = j
    ·subst hkj
     have hlt := (List.getElem?_eq_some_iff.1 hx).1
     simp only [List.getElem?_set_self hlt, Option.some.injEq] at hy
     subst hy
     exact hcell stb
    ·rw [List.getElem?_set_ne (Ne.symm hkj)] at hy
     exact cells r hr k y (fun e => hkj e.2) hy
   ·simp only [List.length_set] at hk2
    have hlt := (List.getElem?_eq_some_iff.1 hx).1
    exact hk.beyond k hk2 b ((h.own b _ (by intro he; simp only [Site.cell.injEq] at he; omega) (by simp)).1 hb)
  ·rw [show (c.put id j r x' w' O' Z').rt i = c.rt i from setRt_ne hi] at hq
   have hk := hc.root i q hq
   refine ⟨fun hv => ?_, fun hv => ?_, fun k y hy => cells q hq k y (fun e => hi e.1) hy, fun k hk2 b hb => ?_⟩
   ·obtain ⟨h1, h2⟩ := hk.virt hv
    exact ⟨h1, fun b hb => h2 b ((h.own b _ (by simp) (by simp)).1 hb)⟩
   ·obtain ⟨b, ca, E, fz, h1, h2, h3, h4, h5⟩ := hk.box hv
    exact ⟨b, ca, E, fz, h1, (h.heap b (.inr ⟨.box i, (h5 b).2 rfl, by simp, by simp, by simpa using hi⟩)).trans h2, h3, h4, fun b' => (h.own b' _ (by simp) (by simp)).trans (h5 b')⟩
   ·exact hk.beyond k hk2 b ((h.own b _ (by intro he; simp only [Site.cell.injEq] at he; exact hi he.1) (by simp)).1 hb)
 ·by_cases hik : i = id ∧ k = j
  ·exact setRt_some (by rw [hik.1, hr]; simp)
  ·exact setRt_some (hc.oi b i k ((h.own b _ (by intro he; simp only [Site.cell.injEq] at he; exact hik he) (by simp)).1 hb))
 ·exact setRt_some (hc.ob b i ((h.own b _ (by simp) (by simp)).1 hb))
end Go.PV

namespace Go.PV
theorem Rep.take {w : World} {Z : Fp} {cs : SS} {d n cap : Nat} {xs : List cs.T} {A : Option Addr} {F : Fp} (h : Rep w Z (.row cs) d xs (.slice A xs.length cap) F) (hn : n ≤ xs.length) :
  ∃ F' : Fp, (∀ b, F' b → F b) ∧ Rep w Z (.row cs) d (List.take n xs) (.slice A n cap) F' := by
 have hlen : (List.take n xs).length = n := by simp [Nat.min_eq_left hn]
 cases d with
 | zero =>
  simp only [Rep] at h ⊢
  obtain ⟨A', cap', hv, hc, hF, hi⟩ := h
  obtain ⟨rfl, _, rfl⟩ := Value.slice.inj hv
  refine ⟨nil', fun _ h => h.elim, A, cap, by rw [hlen], by omega, rfl, fun i hlt => ?_⟩
  have hlt' : i < xs.length := by omega
  obtain ⟨a, h1, h2, h3, h4⟩ := hi i hlt'
  exact ⟨a, h1, h2, h3, by rw [List.getElem_take]; exact h4⟩
 | succ d =>
  simp only [Rep] at h
  obtain ⟨A', cap', hv, hc, h⟩ := h
  obtain ⟨rfl, _, rfl⟩ := Value.slice.inj hv
  rcases h with ⟨h1, h2, h3, h4⟩ | ⟨b, c, E, fz, G, h1, h2, h3, h4, h5, h6, h7, h8⟩
  ·subst h3
   refine ⟨nil', fun _ h => h.elim, ?_⟩
   simp only [Rep]
   have : n = 0 := by simpa using hn
   subst this
   exact ⟨A, cap, rfl, by simp, .inl ⟨h1, h2, by simp, trivial⟩⟩
  ·refine ⟨fun b' => b' = b ∨ ∃ i, i < n ∧ G i b', fun b' hb => ?_, ?_⟩
   ·subst h6; exact hb.imp (fun h => h) fun ⟨i, hi, hg⟩ => ⟨i, by omega, hg⟩
   ·simp only [Rep, hlen]
    exact ⟨A, cap, rfl, by omega, .inr ⟨b, c, E, fz, G, h1, h2, h3, h4, fun i hi => by rw [List.getElem_take]; exact h5 i (by omega), rfl, fun i hi => h7 i (by omega), fun i j hi hj => h8 i j (by omega) (by omega)⟩⟩
theorem cellAt_some {rt : Rt} {id j : Nat} {x : VC} (h : cellAt rt id j = some x) : ∃ r, rt id = some r ∧ r.cells[j]? = some x := by
 unfold cellAt at h
 split at h
 ·rename_i r hr; exact ⟨r, hr, h⟩
 ·cases h
theorem setCellAt_some {rt rt' : Rt} {id j : Nat} {x : VC} {r : Root} (hr : rt id = some r) (h : setCellAt rt id j x = some rt') : rt' = setRt rt id ⟨r.virt, r.cells.set j x⟩ := by
 unfold setCellAt at h
 rw [hr] at h
 exact (Option.some.inj h).symm
theorem Put.still {c : Cf} (hc : c.Inv) {id j : Nat} {r : Root} (hr : c.rt id = some r) (O' : Own) (Z' : Fp)
  (ho : ∀ b, c.O b ≠ some (.cell id j) → O' b = c.O b) (ho' : ∀ b s, O' b = some s → c.O b = some s ∨ ((∃ k, s = .det k) ∧ c.O b = some (.cell id j)))
  (hz : ∀ b, c.Z b → Z' b) (hz' : ∀ b, Z' b → c.Z b ∨ (c.O b = some (.cell id j) ∧ O' b = none)) : Put c id j r c.w O' Z' where
 size := Nat.le_refl _
 own b s h1 h2 := by
  constructor
  ·intro h
   rcases ho' b s h with h3 | ⟨⟨k, h3⟩, _⟩
   ·exact h3
   ·exact absurd h3 (h2 k)
  ·intro h
   rw [ho b (by rw [h]; simpa using h1)]
   exact h
 os b s h := by
  rcases ho' b s h with h3 | ⟨_, h3⟩
  ·exact hc.os b _ h3
  ·exact hc.os b _ h3
 z := hz
 z' b h := by
  rcases hz' b h with h1 | ⟨h1, _⟩
  ·exact .inl h1
  ·exact .inr (.inl (by rw [h1]; simp))
 zo b h := by
  rcases hz' b h with h1 | ⟨_, h1⟩
  ·have := hc.zo b h1
   rw [ho b (by rw [this]; simp)]
   exact this
  ·exact h1
 zs b h := by
  rcases hz' b h with h1 | ⟨h1, _⟩
  ·exact hc.zs b h1
  ·exact hc.os b _ h1
 heap _ _ := rfl
 nobody b _ h := ⟨rfl, by rw [ho b (by rw [h]; simp)]; exact h⟩
 box hv b hb := by
  obtain ⟨b', ca, E, fz, h1, h2, h3, h4, h5⟩ := (hc.root id r hr).box hv
  obtain rfl := (h5 b).1 hb
  exact ⟨ca, ca, E, fz, h2, h2, rfl, fun _ _ => rfl⟩
 env := SameEnv.refl _
theorem freeze_to {c : Cf} (hc : c.Inv) {id j n : Nat} {rt' : Rt} (h : freezeAt c.rt id j n = some rt') :
  ∃ O' Z', To c ⟨rt', c.w, c.γ, O', Z'⟩ ∧ ∀ b k, O' b = some (.det k) ↔ c.O b = some (.det k) := by
 unfold freezeAt at h
 cases hx : cellAt c.rt id j with
 | none => rw [hx] at h; cases h
 | some x =>
  obtain ⟨r, hr, hxj⟩ := cellAt_some hx
  rw [hx] at h
  cases hxc : x.c with
  | mk d k =>
   simp only [hxc] at h
   have hrt := setCellAt_some hr h
   subst hrt
   obtain ⟨rv, h1, h2⟩ := (hc.root id r hr).cell j x hxj
   rw [hxc] at h2
   obtain ⟨F', f1, f2⟩ := Rep.weaken (min d n) (Nat.min_le_left _ _) (show Rep c.w c.Z k.s d k.x rv _ from h2)
   have hdec : ∀ b, Decidable (F' b) := fun b => Classical.propDecidable _
   have hdec2 : ∀ b, Decidable (c.O b = some (.cell id j)) := fun b => Classical.propDecidable _
   refine ⟨fun b => if c.O b = some (.cell id j) then (if F' b then some (.cell id j) else none) else c.O b, fun b => c.Z b ∨ (c.O b = some (.cell id j) ∧ ¬ F' b), ?_, fun b k => ?_⟩
   ·refine Put.to hc hr hxj (Put.still hc hr _ _ (fun b hb => by simp only [if_neg hb]) (fun b s hs => ?_) (fun b hb => .inl hb) (fun b hb => hb.imp (fun h => h) fun ⟨h1, h2⟩ => ⟨h1, by simp only [if_pos h1, if_neg h2]⟩)) (fun _ => ⟨rv, h1, ?_⟩) ⟨rv, h1⟩ (fun rv1 rv2 e1 e2 => ?_)
    ·split at hs
     ·rename_i hb
      split at hs
      ·obtain rfl := Option.some.inj hs; exact .inl hb
      ·cases hs
     ·exact .inl hs
    ·show Rep c.w _ k.s (min d n) k.x rv _
     have e : (fun b => (if c.O b = some (.cell id j) then (if F' b then some (Site.cell id j) else none) else c.O b) = some (.cell id j)) = F' := by
      funext b
      apply propext
      constructor
      ·intro hb
       split at hb
       ·split at hb
        ·assumption
        ·cases hb
       ·contradiction
      ·intro hb
       rw [if_pos (f1 b hb), if_pos hb]
     rw [e]
     exact f2
    ·rw [e1] at e2
     obtain rfl := Option.some.inj e2
     obtain ⟨hv, iv, xc⟩ := x
     simp only at hxc
     subst hxc
     exact CellCh.weaken
   ·show (if c.O b = some (.cell id j) then (if F' b then some (Site.cell id j) else none) else c.O b) = some (.det k) ↔ _
    split
    ·rename_i hb
     rw [hb]
     split <;> simp
    ·rfl
  | any => simp only [hxc] at h; cases h
  | al => simp only [hxc] at h; cases h
  | lk => simp only [hxc] at h; cases h
theorem cutV_none (v : Value) : cutV none v = v := by cases v <;> rfl
theorem valOf_rep {c : Cf} (hc : c.Inv) {p : P} {v : Value} {cv : CV} (h : valOf c.rt p = some cv) (hp : c.P1 p v) :
  ∃ d F, Rep c.w c.Z cv.s d cv.x v F ∧ ∀ b, F b → ∃ id j, c.O b = some (.cell id j) := by
 cases p with
 | cv k =>
  simp only [valOf, Option.some.injEq] at h
  subst h
  exact ⟨0, nil', hp, fun _ h => h.elim⟩
 | ref id j st cut n =>
  simp only [valOf] at h
  cases hx : cellAt c.rt id j with
  | none => rw [hx] at h; cases h
  | some x =>
   obtain ⟨r, hr, hxj⟩ := cellAt_some hx
   rw [hx] at h
   obtain ⟨r', x', rv, p1, p2, p3, p4, p5⟩ := hp
   rw [hr] at p1
   obtain rfl := Option.some.inj p1
   rw [hxj] at p2
   obtain rfl := Option.some.inj p2
   cases hxc : x.c with
   | mk d k =>
    simp only [hxc] at h
    cases hok : x.ok st n with
    | false => rw [hok] at h; cases h
    | true =>
     rw [hok] at h
     simp only [cond_true] at h
     have hn : n = x.ver st := by
      unfold VC.ok at hok
      unfold VC.ver
      cases st <;> exact Nat.eq_of_beq_eq_true hok
     have hr2 := p5 hn
     unfold RefOk at hr2
     simp only [hxc] at hr2
     obtain ⟨v0, cs, xs, q1, q2, q3, q4, q5⟩ := hr2
     obtain ⟨rv', h1, h2⟩ := (hc.root id r hr).cell j x hxj
     rw [p3] at h1
     obtain rfl := Option.some.inj h1
     rw [hxc] at h2
     obtain ⟨c', v', F', k1, k2, k3, k4, _⟩ := path_read (show Rep c.w c.Z k.s d k.x rv _ from h2) q1
     rw [q2] at k2
     obtain rfl := Option.some.inj k2
     rw [q3] at k1
     obtain rfl := Option.some.inj k1
     rw [q3] at h
     subst q5
     cases cut with
     | none =>
      simp only [Option.some.injEq] at h
      subst h
      rw [cutV_none]
      exact ⟨_, F', k3, fun b hb => ⟨id, j, k4 b hb⟩⟩
     | some m =>
      simp only [Option.some.injEq] at h
      subst h
      have k3' := k3
      simp only [Rep] at k3'
      obtain ⟨A, cap, hv, _⟩ := k3'
      subst hv
      obtain ⟨F'', g1, g2⟩ := k3.take (q4 m rfl)
      exact ⟨_, F'', g2, fun b hb => ⟨id, j, k4 b (g1 b hb)⟩⟩
   | any => simp only [hxc] at h; cases h
   | al => simp only [hxc] at h; cases h
   | lk => simp only [hxc] at h; cases h
 | _ => simp [valOf] at h
theorem rowOf_rep {c : Cf} (hc : c.Inv) {cs : SS} {p : P} {v : Value} {xs : List cs.T} (h : rowOf c.rt cs p = some xs) (hp : c.P1 p v) :
  ∃ d F, Rep c.w c.Z (.row cs) d xs v F ∧ ∀ b, F b → ∃ id j, c.O b = some (.cell id j) := by
 have other : ∀ q, (match valOf c.rt q with | some c => c.as (.row cs) | none => none) = some xs → c.P1 q v → ∃ d F, Rep c.w c.Z (.row cs) d xs v F ∧ ∀ b, F b → ∃ id j, c.O b = some (.cell id j) := by
  intro q h hq
  cases hv : valOf c.rt q with
  | none => rw [hv] at h; cases h
  | some cv =>
   rw [hv] at h
   have := CV.as_some h
   subst this
   exact valOf_rep hc hv hq
 cases p with
 | e =>
  simp only [rowOf, Option.some.injEq] at h
  subst h
  have : v = .slice none 0 0 := hp
  subst this
  refine ⟨0, nil', ?_, fun _ h => h.elim⟩
  simp only [Rep]
  exact ⟨none, 0, rfl, Nat.le_refl _, trivial, fun i hi => absurd hi (Nat.not_lt_zero _)⟩
 | _ => refine other _ ?_ hp; exact h
theorem ref_rep {c : Cf} (hc : c.Inv) {id j : Nat} {st : Way} {cut : Option Nat} {n : Nat} {v : Value} {x : VC} {d : Nat} {k : CV} {cs : SS} {xs : List cs.T}
  (hx : cellAt c.rt id j = some x) (hxc : x.c = .mk d k) (h : rowOf c.rt cs (.ref id j st cut n) = some xs) (hp : c.P1 (.ref id j st cut n) v) :
  ∃ F, Rep c.w c.Z (.row cs) (d - st.length) xs v F ∧ ∀ b, F b → c.O b = some (.cell id j) := by
 obtain ⟨r, hr, hxj⟩ := cellAt_some hx
 obtain ⟨ks, kx⟩ := k
 simp only [rowOf, valOf, hx, hxc] at h
 obtain ⟨r', x', rv, p1, p2, p3, p4, p5⟩ := hp
 rw [hr] at p1
 obtain rfl := Option.some.inj p1
 rw [hxj] at p2
 obtain rfl := Option.some.inj p2
 cases hok : x.ok st n with
 | false => simp [hok] at h
 | true =>
  simp only [hok, cond_true] at h
  have hn : n = x.ver st := by
   unfold VC.ok at hok
   unfold VC.ver
   cases st <;> exact Nat.eq_of_beq_eq_true hok
  have hr2 := p5 hn
  unfold RefOk at hr2
  simp only [hxc] at hr2
  obtain ⟨v0, cs', xs', q1, q2, q3, q4, q5⟩ := hr2
  obtain ⟨rv', h1, h2⟩ := (hc.root id r hr).cell j x hxj
  rw [p3] at h1
  obtain rfl := Option.some.inj h1
  rw [hxc] at h2
  obtain ⟨c', v', F', k1, k2, k3, k4, _⟩ := path_read (show Rep c.w c.Z ks d kx rv _ from h2) q1
  rw [q2] at k2
  obtain rfl := Option.some.inj k2
  rw [q3] at k1
  obtain rfl := Option.some.inj k1
  simp only [q3] at h
  subst q5
  cases cut with
  | none =>
   have e := CV.as_some h
   simp only [CV.mk.injEq, S.row.injEq] at e
   obtain ⟨rfl, e⟩ := e
   obtain rfl := eq_of_heq e
   rw [cutV_none]
   exact ⟨F', k3, k4⟩
  | some m =>
   have e := CV.as_some h
   simp only [CV.mk.injEq, S.row.injEq] at e
   obtain ⟨rfl, e⟩ := e
   obtain rfl := eq_of_heq e
   have k3' := k3
   simp only [Rep] at k3'
   obtain ⟨A, cap, hv, _⟩ := k3'
   subst hv
   obtain ⟨F'', g1, g2⟩ := k3.take (q4 m rfl)
   exact ⟨F'', g2, fun b hb => k4 b (g1 b hb)⟩
theorem Rep.ro_nil {w : World} {Z : Fp} {cs : SS} {xs : List cs.T} {v : Value} {F : Fp} (h : Rep w Z (.row cs) 0 xs v F) : F = nil' := by
 simp only [Rep] at h
 obtain ⟨_, _, _, _, h, _⟩ := h
 exact h
theorem takeRow_to {c : Cf} (hc : c.Inv) {cs : SS} {p : P} {v : Value} {xs : List cs.T} {d : Nat} {rt' : Rt} (h : takeRow c.rt cs p = some (xs, d, rt')) (hp : c.P1 p v) {k : Nat} (hk : ∀ b, c.O b ≠ some (.det k)) :
  ∃ O' Z', To c ⟨rt', c.w, c.γ, O', Z'⟩ ∧ Rep c.w Z' (.row cs) d xs v (fun b => O' b = some (.det k)) ∧ ∀ b k', k' ≠ k → (O' b = some (.det k') ↔ c.O b = some (.det k')) := by
 have enil : (fun b => c.O b = some (.det k)) = nil' := by funext b; exact eq_false (hk b)
 cases p with
 | e =>
  simp only [takeRow, Option.some.injEq, Prod.mk.injEq] at h
  obtain ⟨rfl, rfl, rfl⟩ := h
  have : v = .slice none 0 0 := hp
  subst this
  refine ⟨c.O, c.Z, To.refl hc, ?_, fun _ _ _ => Iff.rfl⟩
  rw [enil]
  simp only [full, Rep]
  exact ⟨none, 0, rfl, Nat.le_refl _, .inl ⟨rfl, rfl, trivial, trivial⟩⟩
 | cv k' =>
  simp only [takeRow] at h
  cases ha : k'.as (.row cs) with
  | none => rw [ha] at h; cases h
  | some ys =>
   rw [ha] at h
   simp only [Option.some.injEq, Prod.mk.injEq] at h
   obtain ⟨rfl, rfl, rfl⟩ := h
   have := CV.as_some ha
   subst this
   refine ⟨c.O, c.Z, To.refl hc, ?_, fun _ _ _ => Iff.rfl⟩
   rw [enil]
   exact hp
 | ref id j st cut n =>
  have hp0 := hp
  simp only [takeRow] at h
  cases hrow : rowOf c.rt cs (.ref id j st cut n) with
  | none => rw [hrow] at h; cases h
  | some ys =>
   rw [hrow] at h
   cases hx : cellAt c.rt id j with
   | none => simp only [hx] at h; cases h
   | some x =>
    obtain ⟨r, hr, hxj⟩ := cellAt_some hx
    simp only [hx] at h
    cases hxc : x.c with
    | any => simp only [hxc] at h; cases h
    | al => simp only [hxc] at h; cases h
    | lk => simp only [hxc] at h; cases h
    | mk d0 k0 =>
     obtain ⟨ks, kx⟩ := k0
     simp only [hxc] at h
     obtain ⟨rv, h1, h2⟩ := (hc.root id r hr).cell j x hxj
     rw [hxc] at h2
     have h2 : Rep c.w c.Z ks d0 kx rv (fun b => c.O b = some (.cell id j)) := h2
     cases st with
     | nil =>
      cases hs : setCellAt c.rt id j ⟨x.hv, x.iv + 1, .any⟩ with
      | none => simp only [hs] at h; cases h
      | some rt2 =>
       simp only [hs, Option.some.injEq, Prod.mk.injEq] at h
       obtain ⟨rfl, rfl, rfl⟩ := h
       have := setCellAt_some hr hs
       subst this
       obtain ⟨r', x', rv', p1, p2, p3, p4, p5⟩ := hp
       rw [hr] at p1
       obtain rfl := Option.some.inj p1
       rw [hxj] at p2
       obtain rfl := Option.some.inj p2
       rw [h1] at p3
       obtain rfl := Option.some.inj p3
       have hn : n = x.hv := by
        simp only [rowOf, valOf, hx, hxc] at hrow
        cases hok : x.ok [] n with
        | false => simp [hok] at hrow
        | true => exact Nat.eq_of_beq_eq_true hok
       have hr2 := p5 hn
       unfold RefOk at hr2
       simp only [hxc] at hr2
       obtain ⟨v0, cs', xs', q1, q2, q3, q4, q5⟩ := hr2
       simp only [pv, Option.some.injEq] at q2
       subst q2
       rw [getP_nil] at q3
       have hys : ∃ F' : Fp, (∀ b, F' b → c.O b = some (.cell id j)) ∧ Rep c.w c.Z (.row cs) d0 ys v F' := by
        simp only [rowOf, valOf, hx, hxc, getP_nil] at hrow
        have hok : x.ok [] n = true := by rw [hn]; simp [VC.ok]
        rw [hok] at hrow
        simp only [cond_true] at hrow
        obtain ⟨rfl, q3⟩ := CV.mk.inj (Option.some.inj q3)
        obtain rfl := eq_of_heq q3
        subst q5
        cases cut with
        | none =>
         have e := CV.as_some hrow
         simp only [CV.mk.injEq, S.row.injEq] at e
         obtain ⟨rfl, e⟩ := e
         obtain rfl := eq_of_heq e
         rw [cutV_none]
         exact ⟨_, fun _ h => h, h2⟩
        | some m =>
         have e := CV.as_some hrow
         simp only [CV.mk.injEq, S.row.injEq] at e
         obtain ⟨rfl, e⟩ := e
         obtain rfl := eq_of_heq e
         have h2' := h2
         simp only [Rep] at h2'
         obtain ⟨A, cap, hv, _⟩ := h2'
         subst hv
         obtain ⟨F'', g1, g2⟩ := h2.take (q4 m rfl)
         exact ⟨F'', g1, g2⟩
       obtain ⟨F', f1, f2⟩ := hys
       have hdec : ∀ b, Decidable (F' b) := fun b => Classical.propDecidable _
       have hdec2 : ∀ b, Decidable (c.O b = some (.cell id j)) := fun b => Classical.propDecidable _
       refine ⟨fun b => if c.O b = some (.cell id j) then (if F' b then some (.det k) else none) else c.O b, c.Z, ?_, ?_, fun b k' hkk => ?_⟩
       ·refine Put.to hc hr hxj (Put.still hc hr _ _ (fun b hb => by simp only [if_neg hb]) (fun b s hs => ?_) (fun b hb => hb) (fun b hb => .inl hb)) (fun _ => ⟨rv, h1, fun b hb => ?_⟩) ⟨rv, h1⟩ (fun rv1 rv2 e1 e2 => by
         rw [e1] at e2
         obtain rfl := Option.some.inj e2
         obtain ⟨hv, iv, xc⟩ := x
         simp only at hxc
         subst hxc
         exact CellCh.taken)
        ·split at hs
         ·rename_i hb
          split at hs
          ·obtain rfl := Option.some.inj hs; exact .inr ⟨⟨k, rfl⟩, hb⟩
          ·cases hs
         ·exact .inl hs
        ·simp only at hb
         split at hb
         ·split at hb
          ·simp at hb
          ·cases hb
         ·contradiction
       ·have e : (fun b => (if c.O b = some (.cell id j) then (if F' b then some (Site.det k) else none) else c.O b) = some (.det k)) = F' := by
         funext b
         apply propext
         constructor
         ·intro hb
          split at hb
          ·split at hb
           ·assumption
           ·cases hb
          ·exact absurd hb (hk b)
         ·intro hb
          rw [if_pos (f1 b hb), if_pos hb]
        rw [e]
        exact f2
       ·show (if c.O b = some (.cell id j) then (if F' b then some (Site.det k) else none) else c.O b) = some (.det k') ↔ _
        split
        ·rename_i hb
         rw [hb]
         split
         ·simp only [Option.some.injEq, Site.det.injEq]
          exact ⟨fun h => absurd h.symm hkk, fun h => by cases h⟩
         ·simp
        ·rfl
     | cons y st =>
      cases hs : freezeAt c.rt id j (y :: st).length with
      | none => simp only [hs] at h; cases h
      | some rt2 =>
       simp only [hs, Option.some.injEq, Prod.mk.injEq] at h
       obtain ⟨rfl, rfl, rfl⟩ := h
       obtain ⟨O', Z', t1, t2⟩ := freeze_to hc hs
       refine ⟨O', Z', t1, ?_, fun b k' _ => t2 b k'⟩
       have hp' := t1.stb _ _ hp0
       have hf : freezeAt c.rt id j (y :: st).length = setCellAt c.rt id j ⟨x.hv, x.iv, .mk (min d0 (y :: st).length) ⟨ks, kx⟩⟩ := by
        unfold freezeAt
        simp only [hx, hxc]
       rw [hf] at hs
       have hrt := setCellAt_some hr hs
       have hlt := (List.getElem?_eq_some_iff.1 hxj).1
       have hx2 : cellAt rt2 id j = some ⟨x.hv, x.iv, .mk (min d0 (y :: st).length) ⟨ks, kx⟩⟩ := by
        rw [hrt]
        unfold cellAt
        rw [setRt_self]
        simp [List.getElem?_set_self hlt]
       have hrow2 : rowOf rt2 cs (.ref id j (y :: st) cut n) = some ys := by
        rw [← hrow]
        simp only [rowOf, valOf, hx, hx2, hxc, VC.ok]
       obtain ⟨F, g1, g2⟩ := ref_rep (c := ⟨rt2, c.w, c.γ, O', Z'⟩) t1.inv hx2 rfl hrow2 hp'
       have e0 : min d0 (y :: st).length - (y :: st).length = 0 := by omega
       rw [e0] at g1
       have := g1.ro_nil
       subst this
       have e1 : (fun b => O' b = some (.det k)) = nil' := by
        funext b
        exact eq_false fun hb => hk b ((t2 b k).1 hb)
       rw [e1]
       exact g1
 | _ => simp [takeRow] at h
end Go.PV

namespace Go.PV
theorem setCell_other {w : World} {b b' o : Nat} {v : Value} (h : b' ≠ b) : (w.setCell ⟨b, o, none⟩ v).heap[b']? = w.heap[b']? := by
 simp only [World.setCell, Array.getElem?_modify]
 rw [if_neg (Ne.symm h)]
theorem setCell_size {w : World} {a : Addr} {v : Value} : (w.setCell a v).heap.size = w.heap.size := by simp [World.setCell]
theorem setCell_sb {w : World} {b o : Nat} {v : Value} {ca : Array Value} {E : TypeId} {fz : Nat × Nat} (h : w.heap[b]? = some (.cells ca E fz)) (ho : o < ca.size) :
  SameBut w (w.setCell ⟨b, o, none⟩ v) b o v := by
 refine ⟨ca, ca.setIfInBounds o v, E, fz, h, ?_, by simp, by simp [ho], fun i hi => by simp [Ne.symm hi]⟩
 simp only [World.setCell, Array.getElem?_modify, if_pos, h, Option.map_some]
 simp
theorem setP_shape : ∀ {st : Way} {s : S} {x : s.T} {p c : CV} {y : s.T}, setP s x st p = some y → getP s x st = some c → p.s = c.s
 | [], s, x, p, c, y, h, hg => by
  rw [setP_nil] at h
  rw [getP_nil] at hg
  obtain rfl := Option.some.inj hg
  have := CV.as_some h
  subst this
  rfl
 | (i, j) :: st, .row cs, xs, p, c, y, h, hg => by
  simp only [setP] at h
  simp only [getP] at hg
  cases hc : cs.get (List.getD xs i cs.d) j with
  | none => rw [hc] at hg; cases hg
  | some c0 =>
   rw [hc] at h hg
   simp only at h hg
   cases hs : setP c0.s c0.x st p with
   | none => rw [hs] at h; cases h
   | some z => exact setP_shape hs hg
 | _ :: _, .int _, _, _, _, _, h, _ | _ :: _, .bool, _, _, _, _, h, _ | _ :: _, .str, _, _, _, _, h, _ => by simp [setP] at h
noncomputable def reown (O : Own) (id j k : Nat) : Own := fun b => open Classical in
 if O b = some (.det k) then some (.cell id j) else if O b = some (.cell id j) then none else O b
theorem reown_cell {O : Own} {id j k : Nat} : (fun b => reown O id j k b = some (.cell id j)) = (fun b => O b = some (.det k)) := by
 funext b
 unfold reown
 apply propext
 split
 ·rename_i h; simp [h]
 ·rename_i h
  split
  ·simp [h]
  ·rename_i h2; simp [h, h2]
theorem reown_some {O : Own} {id j k b : Nat} {s : Site} (h : reown O id j k b = some s) : (s = .cell id j ∧ O b = some (.det k)) ∨ (s ≠ .cell id j ∧ s ≠ .det k ∧ O b = some s) := by
 unfold reown at h
 split at h
 ·rename_i hb; exact .inl ⟨(Option.some.inj h).symm, hb⟩
 ·rename_i hb
  split at h
  ·cases h
  ·rename_i hb2
   refine .inr ⟨fun e => ?_, fun e => ?_, h⟩
   ·subst e; exact hb2 h
   ·subst e; exact hb h
theorem reown_other {O : Own} {id j k b : Nat} {s : Site} (h1 : s ≠ .cell id j) (h2 : s ≠ .det k) : reown O id j k b = some s ↔ O b = some s := by
 constructor
 ·intro h
  rcases reown_some h with ⟨h3, _⟩ | ⟨_, _, h3⟩
  ·exact absurd h3 h1
  ·exact h3
 ·intro h
  unfold reown
  rw [if_neg (by rw [h]; simpa using h2), if_neg (by rw [h]; simpa using h1)]
  exact h
theorem reown_none {O : Own} {id j k b : Nat} (h : O b = none) : reown O id j k b = none := by
 unfold reown
 rw [if_neg (by rw [h]; simp), if_neg (by rw [h]; simp)]
 exact h
theorem boxSet_to {c : Cf} (hc : c.Inv) {id j : Nat} {r : Root} {x x' : VC} (hr : c.rt id = some r) (hx : r.cells[j]? = some x) (hv : r.virt = false) {v : Value} {k : Nat} {b : Nat} (hb : c.γ id = .pointer (some ⟨b, 0, none⟩))
  (h1 : x.hv < x'.hv) (h2 : x.iv < x'.iv) (h3 : ∀ q, x.c ≠ .lk q)
  (hcell : CellOk c.rt c.w c.γ (reown c.O id j k) c.Z id j v x'.c) :
  To c (c.put id j r x' (c.w.setCell ⟨b, j, none⟩ v) (reown c.O id j k) c.Z) := by
 obtain ⟨b', ca, E, fz, g1, g2, g3, g4, g5⟩ := (hc.root id r hr).box hv
 rw [hb] at g1
 obtain rfl : b = b' := by simpa using g1
 have hlt : j < ca.size := by rw [g3]; exact (List.getElem?_eq_some_iff.1 hx).1
 have hsb := setCell_sb (v := v) g2 hlt
 have hval : PV.rootVal (c.w.setCell ⟨b, j, none⟩ v) r (c.γ id) j = some v := by
  unfold PV.rootVal
  simp only [hv, hb]
  exact hsb.here
 have hOb : ∀ b', c.O b' = some (.box id) ↔ b' = b := g5
 have hput : Put c id j r (c.w.setCell ⟨b, j, none⟩ v) (reown c.O id j k) c.Z := by
  refine ⟨by rw [setCell_size]; exact Nat.le_refl _, fun b s h1 h2 => reown_other h1 (h2 k), fun b s h => ?_, fun _ h => h, fun _ h => .inl h, fun b h => reown_none (hc.zo b h), fun b h => by rw [setCell_size]; exact hc.zs b h, fun b' h => ?_, fun b' _ h => ⟨?_, reown_none h⟩, fun _ b' h => ?_, ⟨rfl, rfl, rfl⟩⟩
  ·rw [setCell_size]
   rcases reown_some h with ⟨_, h3⟩ | ⟨_, _, h3⟩
   ·exact hc.os b _ h3
   ·exact hc.os b _ h3
  ·refine setCell_other fun e => ?_
   subst e
   rcases h with h | ⟨s, h3, _, _, h4⟩
   ·have := hc.zo b' h
    rw [(hOb b').2 rfl] at this
    cases this
   ·rw [(hOb b').2 rfl] at h3
    exact h4 (Option.some.inj h3).symm
  ·refine setCell_other fun e => ?_
   subst e
   rw [(hOb b').2 rfl] at h
   cases h
  ·obtain rfl := (hOb b').1 h
   obtain ⟨a1, a2, E1, fz1, s1, s2, s3, s4, s5⟩ := hsb
   exact ⟨a1, a2, E1, fz1, s1, s2, s3, s5⟩
 refine Put.to hc hr hx hput (fun stb => ⟨v, hval, ?_⟩) ⟨v, hval⟩ (fun _ _ _ _ => CellCh.bump h1 h2 h3)
 have hheap : ∀ b', c.O b' = some (.det k) ∨ c.Z b' → (c.w.setCell ⟨b, j, none⟩ v).heap[b']? = c.w.heap[b']? := fun b' h => by
  refine setCell_other fun e => ?_
  subst e
  have hbb := (hOb b').2 rfl
  rcases h with h | h
  ·rw [h] at hbb; cases hbb
  ·have := hc.zo b' h
   rw [hbb] at this
   cases this
 cases hcx : x'.c with
 | mk d e =>
  rw [hcx] at hcell
  show Rep _ _ _ _ _ _ (fun b => reown c.O id j k b = some (.cell id j))
  have hcell' : Rep c.w c.Z e.s d e.x v (fun b => reown c.O id j k b = some (.cell id j)) := hcell
  rw [reown_cell] at hcell' ⊢
  exact hcell'.frame (fun _ h => h) hheap
 | lk e => rw [hcx] at hcell; exact ⟨hcell.1.frame (fun _ h => h) fun b' hb' => hheap b' (hb'.elim (fun h => h.elim) .inr), hcell.2⟩
 | any => rw [hcx] at hcell; exact hcell
 | al => rw [hcx] at hcell; exact ⟨hcell.1, stb _ _ hcell.2⟩
theorem elemSet_to {c : Cf} (hc : c.Inv) {id j : Nat} {r : Root} {x : VC} {d : Nat} {k0 : CV} (hr : c.rt id = some r) (hx : r.cells[j]? = some x) (hxc : x.c = .mk d k0) {st : Way} (hne : st ≠ []) (hd : st.length ≤ d)
  {rv : Value} (hrv : PV.rootVal c.w r (c.γ id) j = some rv) (hin : inR k0.s k0.x st) {p : CV} {y : k0.s.T} {u : Value} {k : Nat}
  (hp : Rep c.w c.Z p.s (d - st.length) p.x u (fun b => c.O b = some (.det k))) (hset : setP k0.s k0.x st p = some y) {x' : VC} (hxc' : x'.c = .mk d ⟨k0.s, y⟩)
  (hch : ∀ b o, pa c.w k0.s rv st = some (b, o) → SameBut c.w (c.w.setCell ⟨b, o, none⟩ u) b o u → CellCh c.w (c.w.setCell ⟨b, o, none⟩ u) rv rv x x') :
  ∃ b o O', pa c.w k0.s rv st = some (b, o) ∧ c.w.frozen? ⟨b, o, none⟩ = false ∧ (∃ v', c.w.cell? ⟨b, o, none⟩ = some v') ∧ To c (c.put id j r x' (c.w.setCell ⟨b, o, none⟩ u) O' c.Z) ∧
   ∀ b' k', k' ≠ k → (O' b' = some (.det k') ↔ c.O b' = some (.det k')) := by
 obtain ⟨rv', h1, h2⟩ := (hc.root id r hr).cell j x hx
 rw [hrv] at h1
 obtain rfl := Option.some.inj h1
 rw [hxc] at h2
 obtain ⟨c1, v', F', b, o, q1, q2, q3, q4, q5, q6, q7, ⟨ca, E, fz, q8⟩, q9, q10⟩ := path_write (show Rep c.w c.Z k0.s d k0.x rv _ from h2) hin hne hd
 have ho : o < ca.size := by
  simp only [World.cell?, q8] at q6
  exact (Array.getElem?_eq_some_iff.1 (by simpa using q6)).1
 have hsb := setCell_sb (v := u) q8 ho
 have hps : p.s = c1.s := setP_shape hset q1
 obtain ⟨ps, px⟩ := p
 simp only at hps
 subst hps
 let hdec : ∀ b, Decidable (F' b) := fun b => Classical.propDecidable _
 let hdec1 : ∀ b, Decidable (c.O b = some (.det k)) := fun b => Classical.propDecidable _
 let O' : Own := fun b => if c.O b = some (.det k) then some (.cell id j) else if F' b then none else c.O b
 have oF : ∀ b, F' b → c.O b = some (.cell id j) := q5
 have o1 : ∀ b s, s ≠ .cell id j → s ≠ .det k → (O' b = some s ↔ c.O b = some s) := fun b s g1 g2 => by
  show (if c.O b = some (.det k) then some (.cell id j) else if F' b then none else c.O b) = some s ↔ _
  split
  ·rename_i hb
   rw [hb]
   simp only [Option.some.injEq]
   exact ⟨fun h => absurd h.symm g1, fun h => absurd h.symm g2⟩
  ·split
   ·rename_i hb
    rw [oF b hb]
    simp only [Option.some.injEq, reduceCtorEq, false_iff]
    exact fun h => g1 h.symm
   ·rfl
 have o2 : (fun b => O' b = some (.cell id j)) = (fun b => (c.O b = some (.cell id j) ∧ ¬ F' b) ∨ c.O b = some (.det k)) := by
  funext b
  apply propext
  show (if c.O b = some (.det k) then some (.cell id j) else if F' b then none else c.O b) = some (.cell id j) ↔ _
  split
  ·rename_i hb; simp [hb]
  ·split
   ·rename_i hb hb2; simp [hb, hb2]
   ·rename_i hb hb2; simp [hb, hb2]
 have o3 : ∀ b, c.O b = none → O' b = none := fun b hb => by
  show (if c.O b = some (.det k) then some (.cell id j) else if F' b then none else c.O b) = none
  rw [if_neg (by rw [hb]; simp), if_neg (fun hf => by have := oF b hf; rw [hb] at this; cases this)]
  exact hb
 have o4 : ∀ b s, O' b = some s → b < c.w.heap.size := fun b s hs => by
  by_cases hb : c.O b = none
  ·rw [o3 b hb] at hs; cases hs
  ·cases hb2 : c.O b with
   | none => exact absurd hb2 hb
   | some s2 => exact hc.os b s2 hb2
 have hout : ∀ b', b' ≠ b → (c.w.setCell ⟨b, o, none⟩ u).heap[b']? = c.w.heap[b']? := fun b' h => setCell_other h
 have hOb : c.O b = some (.cell id j) := q3
 have hput : Put c id j r (c.w.setCell ⟨b, o, none⟩ u) O' c.Z := by
  refine ⟨by rw [setCell_size]; exact Nat.le_refl _, fun b s g1 g2 => o1 b s g1 (g2 k), fun b s h => by rw [setCell_size]; exact o4 b s h, fun _ h => h, fun _ h => .inl h, fun b h => o3 b (hc.zo b h), fun b h => by rw [setCell_size]; exact hc.zs b h, fun b' h => ?_, fun b' _ h => ⟨?_, o3 b' h⟩, fun hv b' h => ?_, ⟨rfl, rfl, rfl⟩⟩
  ·refine hout b' fun e => ?_
   subst e
   rcases h with h | ⟨s, h3, _, h4, _⟩
   ·have := hc.zo b' h
    rw [hOb] at this
    cases this
   ·rw [hOb] at h3
    exact h4 (Option.some.inj h3).symm
  ·refine hout b' fun e => ?_
   subst e
   rw [hOb] at h
   cases h
  ·have hne : b' ≠ b := fun e => by subst e; rw [hOb] at h; cases h
   obtain ⟨b2, ca2, E2, fz2, g1, g2, g3, g4, g5⟩ := (hc.root id r hr).box hv
   obtain rfl := (g5 b').1 h
   exact ⟨ca2, ca2, E2, fz2, g2, (hout b' hne).trans g2, rfl, fun _ _ => rfl⟩
 have hval : PV.rootVal (c.w.setCell ⟨b, o, none⟩ u) r (c.γ id) j = some rv := by
  rw [← hrv]
  unfold PV.rootVal
  cases hv : r.virt with
  | true => rfl
  | false =>
   obtain ⟨b2, ca2, E2, fz2, g1, g2, g3, g4, g5⟩ := (hc.root id r hr).box hv
   simp only [g1]
   refine cell_of_heap (hout b2 fun e => ?_)
   subst e
   rw [(g5 b2).2 rfl] at hOb
   cases hOb
 refine ⟨b, o, O', q2, q7, ⟨v', q6⟩, Put.to hc hr hx hput (fun _ => ⟨rv, hval, ?_⟩) ⟨rv, hval⟩ (fun rv1 rv2 e1 e2 => ?_), fun b' k' hk => o1 b' _ (by simp) (by simpa using hk)⟩
 ·rw [hxc']
  show Rep _ _ k0.s d y rv (fun b => O' b = some (.cell id j))
  rw [o2]
  refine q10 _ c.Z px u _ y hset hsb (fun b' hb => hout b' hb.2.2) (fun _ h => h) (fun b' hb => hout b' fun e => ?_) (hp.frame (fun _ h => h) fun b' hb => hout b' fun e => ?_) fun b' hb hn => ?_
  ·subst e
   have := hc.zo b' hb
   rw [hOb] at this
   cases this
  ·subst e
   rcases hb with hb | hb
   ·rw [hOb] at hb; cases hb
   ·have := hc.zo b' hb
    rw [hOb] at this
    cases this
  ·rw [hb] at hn
   exact absurd hn.1 (by simp)
 ·rw [hrv] at e1
  rw [hval] at e2
  obtain rfl := Option.some.inj e1
  obtain rfl := Option.some.inj e2
  exact hch b o q2 hsb
end Go.PV

namespace Go.PV
def ND (O : Own) : Prop := ∀ b k, O b ≠ some (.det k)
def one : Value → Prop
 | .agg _ | .tuple _ => False
 | _ => True
theorem Rep.one {w : World} {Z : Fp} {s : S} {d : Nat} {x : s.T} {v : Value} {F : Fp} (h : Rep w Z s d x v F) : PV.one v := by
 cases s with
 | int k => obtain ⟨rfl, _⟩ := h; trivial
 | bool => obtain ⟨rfl, _⟩ := h; trivial
 | str => obtain ⟨rfl, _⟩ := h; trivial
 | row cs => simp only [Rep] at h; obtain ⟨A, cap, rfl, _⟩ := h; trivial
theorem cellAt_eq {rt : Rt} {id j : Nat} {r : Root} {x : VC} (hr : rt id = some r) (hx : r.cells[j]? = some x) : cellAt rt id j = some x := by
 unfold cellAt; rw [hr]; exact hx
theorem setCellAt_other {rt rt' : Rt} {id j id2 j2 : Nat} {y : VC} (h : setCellAt rt id2 j2 y = some rt') (hne : ¬ (id2 = id ∧ j2 = j)) {r : Root} {x : VC} (hr : rt id = some r) (hx : r.cells[j]? = some x) :
  ∃ r', rt' id = some r' ∧ r'.virt = r.virt ∧ r'.cells[j]? = some x ∧ r'.cells.length = r.cells.length := by
 unfold setCellAt at h
 cases h2 : rt id2 with
 | none => rw [h2] at h; cases h
 | some q =>
  rw [h2] at h
  obtain rfl := Option.some.inj h
  by_cases hi : id = id2
  ·subst hi
   rw [hr] at h2
   obtain rfl := Option.some.inj h2
   exact ⟨_, setRt_self, rfl, by rw [List.getElem?_set_ne (fun e => hne ⟨rfl, e⟩)]; exact hx, by simp⟩
  ·exact ⟨r, (setRt_ne hi).trans hr, rfl, hx, rfl⟩
theorem freezeAt_other {rt rt' : Rt} {id j id2 j2 n : Nat} (h : freezeAt rt id2 j2 n = some rt') (hne : ¬ (id2 = id ∧ j2 = j)) {r : Root} {x : VC} (hr : rt id = some r) (hx : r.cells[j]? = some x) :
  ∃ r', rt' id = some r' ∧ r'.virt = r.virt ∧ r'.cells[j]? = some x ∧ r'.cells.length = r.cells.length := by
 unfold freezeAt at h
 split at h
 ·split at h
  ·exact setCellAt_other h hne hr hx
  ·cases h
 ·cases h
theorem takeRow_other {rt rt' : Rt} {cs : SS} {p : P} {xs : List cs.T} {d id j : Nat} (h : takeRow rt cs p = some (xs, d, rt')) (hne : ∀ st cut n, p ≠ .ref id j st cut n) {r : Root} {x : VC} (hr : rt id = some r) (hx : r.cells[j]? = some x) :
  ∃ r', rt' id = some r' ∧ r'.virt = r.virt ∧ r'.cells[j]? = some x ∧ r'.cells.length = r.cells.length := by
 cases p with
 | e => simp only [takeRow, Option.some.injEq, Prod.mk.injEq] at h; obtain ⟨_, _, rfl⟩ := h; exact ⟨r, hr, rfl, hx, rfl⟩
 | cv k =>
  simp only [takeRow] at h
  split at h
  ·simp only [Option.some.injEq, Prod.mk.injEq] at h; obtain ⟨_, _, rfl⟩ := h; exact ⟨r, hr, rfl, hx, rfl⟩
  ·cases h
 | ref id2 j2 st cut n =>
  have hne2 : ¬ (id2 = id ∧ j2 = j) := fun ⟨e1, e2⟩ => hne st cut n (by rw [e1, e2])
  simp only [takeRow] at h
  split at h
  ·cases h
  ·split at h
   ·cases h
   ·split at h
    ·split at h
     ·split at h
      ·rename_i hs
       simp only [Option.some.injEq, Prod.mk.injEq] at h
       obtain ⟨_, _, rfl⟩ := h
       exact setCellAt_other hs hne2 hr hx
      ·cases h
     ·split at h
      ·rename_i hs
       simp only [Option.some.injEq, Prod.mk.injEq] at h
       obtain ⟨_, _, rfl⟩ := h
       exact freezeAt_other hs hne2 hr hx
      ·cases h
    ·cases h
 | _ => simp [takeRow] at h
theorem setRt_set {rt : Rt} {id : Nat} {a b : Root} : setRt (setRt rt id a) id b = setRt rt id b := by
 funext i
 by_cases hi : i = id
 ·subst hi; rw [setRt_self, setRt_self]
 ·rw [setRt_ne hi, setRt_ne hi, setRt_ne hi]
theorem nd_nil {O : Own} (h : ND O) (k : Nat) : (fun b => O b = some (.det k)) = nil' := by funext b; exact eq_false (h b k)
theorem nd_reown {O : Own} {id j k : Nat} (h : ∀ b k', k' ≠ k → O b ≠ some (.det k')) : ND (reown O id j k) := by
 intro b k' hb
 rcases reown_some hb with ⟨h1, _⟩ | ⟨_, h2, h3⟩
 ·cases h1
 ·exact h b k' (fun e => h2 (by rw [e])) h3
theorem boxPiece_to {c : Cf} (hc : c.Inv) {id j : Nat} {r : Root} {x : VC} (hr : c.rt id = some r) (hx : r.cells[j]? = some x) (hv : r.virt = false) {v : Value} {k d : Nat} {b : Nat} (hb : c.γ id = .pointer (some ⟨b, 0, none⟩)) {s : S} {y : s.T}
  (hp : Rep c.w c.Z s d y v (fun b => c.O b = some (.det k))) (hnd : ∀ b k', k' ≠ k → c.O b ≠ some (.det k')) {hv' iv' : Nat} (h1 : x.hv < hv') (h2 : x.iv < iv') (h3 : ∀ q, x.c ≠ .lk q) :
  ∃ O', To c (c.put id j r ⟨hv', iv', .mk d ⟨s, y⟩⟩ (c.w.setCell ⟨b, j, none⟩ v) O' c.Z) ∧ ND O' :=
 ⟨_, boxSet_to hc hr hx hv hb (x' := ⟨hv', iv', .mk d ⟨s, y⟩⟩) h1 h2 h3 (by
  show Rep c.w c.Z s d y v (fun b => reown c.O id j k b = some (.cell id j))
  rw [reown_cell]; exact hp), nd_reown hnd⟩
structure Stored (c : Cf) (ad : Addr) (v : Value) (rt' : Rt) : Prop where
 ok : ∃ O' Z', To c ⟨rt', c.w.setCell ad v, c.γ, O', Z'⟩ ∧ ND O'
 cell : ∃ u, c.w.cell? ad = some u
 thaw : c.w.frozen? ad = false
 one : one v
theorem box_cell {c : Cf} (hc : c.Inv) {id j : Nat} {r : Root} {x : VC} (hr : c.rt id = some r) (hx : r.cells[j]? = some x) (hv : r.virt = false) {b : Nat} (hb : c.γ id = .pointer (some ⟨b, 0, none⟩)) :
  (∃ u, c.w.cell? ⟨b, j, none⟩ = some u) ∧ c.w.frozen? ⟨b, j, none⟩ = false := by
 obtain ⟨b', ca, E, fz, g1, g2, g3, g4, g5⟩ := (hc.root id r hr).box hv
 rw [hb] at g1
 obtain rfl : b = b' := by simpa using g1
 have hlt : j < ca.size := by rw [g3]; exact (List.getElem?_eq_some_iff.1 hx).1
 constructor
 ·obtain ⟨rv, h1, _⟩ := (hc.root id r hr).cell j x hx
  unfold PV.rootVal at h1
  simp only [hv, hb] at h1
  exact ⟨rv, h1⟩
 ·simp only [World.frozen?, g2]
  have := g4 j hlt
  simp only [Bool.and_eq_false_iff, decide_eq_false_iff_not]
  omega
theorem putBox_to {c : Cf} (hc : c.Inv) (nd : ND c.O) {id j b : Nat} {s : S} {p : P} {v : Value} {rt' : Rt} {r : Root} (hr : c.rt id = some r) (hv : r.virt = false) (hb : c.γ id = .pointer (some ⟨b, 0, none⟩))
  (h : putBox c.rt id j s p = some rt') (hp : c.P1 p v) : Stored c ⟨b, j, none⟩ v rt' := by
 unfold putBox at h
 cases hx0 : cellAt c.rt id j with
 | none => rw [hx0] at h; cases h
 | some x0 =>
  obtain ⟨r0, hr0, hx⟩ := cellAt_some hx0
  rw [hr] at hr0
  obtain rfl := Option.some.inj hr0
  rw [hx0] at h
  simp only at h
  cases hlk : x0.c.isLk with
  | true => rw [hlk] at h; cases h
  | false =>
  rw [hlk] at h
  simp only [cond_false] at h
  have nlk : ∀ q, x0.c ≠ .lk q := fun q e => by rw [e] at hlk; cases hlk
  obtain ⟨hcell, hthaw⟩ := box_cell hc hr hx hv hb
  have lay : ∀ (cs : SS) (xs : List cs.T) (d : Nat) (rt1 rtf : Rt), takeRow c.rt cs p = some (xs, d, rt1) → (∀ st cut n, p ≠ .ref id j st cut n) → setCellAt rt1 id j ⟨x0.hv + 1, x0.iv + 1, .mk d ⟨.row cs, xs⟩⟩ = some rtf → Stored c ⟨b, j, none⟩ v rtf := by
   intro cs xs d rt1 rtf ht hne hs
   obtain ⟨O1, Z1, t1, t2, t3⟩ := takeRow_to hc ht hp (k := 0) (fun b => nd b 0)
   obtain ⟨r1, e1, e2, e3, _⟩ := takeRow_other ht hne hr hx
   obtain ⟨O2, u1, u2⟩ := boxPiece_to (c := ⟨rt1, c.w, c.γ, O1, Z1⟩) t1.inv e1 e3 (e2.trans hv) hb t2 (fun b k' hk hb => nd b k' ((t3 b k' hk).1 hb)) (Nat.lt_succ_self x0.hv) (Nat.lt_succ_self x0.iv) nlk
   have := setCellAt_some e1 hs
   subst this
   exact ⟨⟨O2, Z1, t1.trans u1, u2⟩, hcell, hthaw, t2.one⟩
  have scal : ∀ (s : S) (q : CV) (y : s.T), s.depth = 0 → p = .cv q → q.as s = some y → setCellAt c.rt id j ⟨x0.hv + 1, x0.iv + 1, .mk full ⟨s, y⟩⟩ = some rt' → Stored c ⟨b, j, none⟩ v rt' := by
   intro s q y hs he ha h9
   subst he
   have e := setCellAt_some hr h9
   subst e
   have := CV.as_some ha
   subst this
   have hp' : Rep c.w c.Z s 0 y v nil' := hp
   obtain ⟨O2, u1, u2⟩ := boxPiece_to hc hr hx hv hb (k := 0) (d := full) (s := s) (y := y) (by
    rw [nd_nil nd 0]
    exact Rep.deep (by omega) (by rw [hs]; exact Nat.zero_le _) hp') (fun b k' _ => nd b k') (Nat.lt_succ_self x0.hv) (Nat.lt_succ_self x0.iv) nlk
   exact ⟨⟨O2, c.Z, u1, u2⟩, hcell, hthaw, hp'.one⟩
  cases s with
  | row cs =>
   simp only at h
   cases p with
   | ref id2 j2 st2 cut v2 =>
    simp only at h
    cases hself : (Nat.beq id2 id && Nat.beq j2 j) with
    | true =>
     rw [hself] at h
     simp only [cond_true] at h
     simp only [Bool.and_eq_true, Nat.beq_eq] at hself
     obtain ⟨rfl, rfl⟩ := hself
     cases st2 with
     | cons y st => cases h
     | nil =>
      cases cut with
      | none => cases h
      | some n =>
       simp only at h
       cases hxc : x0.c with
       | mk d k0 =>
        simp only [hxc] at h
        cases hver : Nat.beq v2 x0.hv with
        | false => rw [hver] at h; cases h
        | true =>
         rw [hver] at h
         simp only [cond_true] at h
         cases ha : k0.as (.row cs) with
         | none => rw [ha] at h; cases h
         | some xs =>
          rw [ha] at h
          simp only at h
          have hk0 := CV.as_some ha
          subst hk0
          have hrow : rowOf c.rt cs (.ref id2 j2 [] (some n) v2) = some (List.take n xs) := by
           simp only [rowOf, valOf, hx0, hxc, VC.ok, hver, cond_true, getP_nil, CV.as_self]
          have hset : ∃ rt1, setCellAt c.rt id2 j2 ⟨x0.hv, x0.iv + 1, .any⟩ = some rt1 := by
           unfold setCellAt; rw [hr]; exact ⟨_, rfl⟩
          obtain ⟨rt1, hset⟩ := hset
          have ht : takeRow c.rt cs (.ref id2 j2 [] (some n) v2) = some (List.take n xs, d, rt1) := by
           simp only [takeRow, hrow, hx0, hxc, hset]
          obtain ⟨O1, Z1, t1, t2, t3⟩ := takeRow_to hc ht hp (k := 0) (fun b => nd b 0)
          have e1 := setCellAt_some hr hset
          subst e1
          have hlt := (List.getElem?_eq_some_iff.1 hx).1
          obtain ⟨O2, u1, u2⟩ := boxPiece_to (c := ⟨_, c.w, c.γ, O1, Z1⟩) (r := ⟨r.virt, r.cells.set j2 ⟨x0.hv, x0.iv + 1, .any⟩⟩) (x := ⟨x0.hv, x0.iv + 1, .any⟩) t1.inv setRt_self (List.getElem?_set_self hlt) hv hb t2 (fun b k' hk hb => nd b k' ((t3 b k' hk).1 hb)) (hv' := x0.hv + 1) (iv' := x0.iv + 2) (Nat.lt_succ_self x0.hv) (Nat.lt_succ_self _) (fun _ h => by cases h)
          have e2 := setCellAt_some hr h
          subst e2
          have u1' := t1.trans u1
          simp only [Cf.put, setRt_set, List.set_set] at u1'
          exact ⟨⟨O2, Z1, u1', u2⟩, hcell, hthaw, t2.one⟩
       | any => simp only [hxc] at h; cases h
       | al => simp only [hxc] at h; cases h
       | lk => simp only [hxc] at h; cases h
    | false =>
     rw [hself] at h
     simp only [cond_false] at h
     have hne : ∀ st cut' n, P.ref id2 j2 st2 cut v2 ≠ .ref id j st cut' n := fun st cut' n e => by
      simp only [P.ref.injEq] at e
      rw [e.1, e.2.1] at hself
      simp at hself
     cases hmv : (isVirt c.rt id2 && st2.isEmpty && cut.isNone && !(isPar id2)) with
     | true =>
      rw [hmv] at h
      simp only [cond_true] at h
      simp only [Bool.and_eq_true] at hmv
      obtain ⟨⟨⟨hvirt, hst⟩, hcut⟩, _⟩ := hmv
      obtain rfl : st2 = [] := List.isEmpty_iff.1 hst
      obtain rfl : cut = none := by simpa using hcut
      cases hxo : cellAt c.rt id2 j2 with
      | none => rw [hxo] at h; cases h
      | some o =>
       obtain ⟨q, hq, hqo⟩ := cellAt_some hxo
       rw [hxo] at h
       simp only at h
       cases ht : takeRow c.rt cs (.ref id2 j2 [] none v2) with
       | none => rw [ht] at h; cases h
       | some y =>
        obtain ⟨xs, d, rt1⟩ := y
        rw [ht] at h
        simp only at h
        cases hs : setCellAt rt1 id j ⟨x0.hv + 1, x0.iv + 1, .mk d ⟨.row cs, xs⟩⟩ with
        | none => rw [hs] at h; cases h
        | some rt2 =>
         rw [hs] at h
         simp only at h
         have hqv : q.virt = true := by unfold isVirt at hvirt; rw [hq] at hvirt; exact hvirt
         have hj2 : j2 = 0 := by
          have h1 := ((hc.root id2 q hq).virt hqv).1
          have h2 := (List.getElem?_eq_some_iff.1 hqo).1
          omega
         subst hj2
         have hidne : id ≠ id2 := fun e => by
          subst e
          rw [hr] at hq
          obtain rfl := Option.some.inj hq
          rw [hv] at hqv
          cases hqv
         have hval : v = c.γ id2 := by
          obtain ⟨r', x', rv, p1, p2, p3, p4, p5⟩ := hp
          rw [hq] at p1
          obtain rfl := Option.some.inj p1
          rw [hqo] at p2
          obtain rfl := Option.some.inj p2
          simp only [PV.rootVal, hqv, Option.some.injEq] at p3
          subst p3
          have hok : v2 = o.hv := by
           simp only [takeRow, rowOf, valOf, hxo] at ht
           cases hoc : o.c with
           | mk dd kk =>
            simp only [hoc] at ht
            cases hkk : o.ok [] v2 with
            | true => exact Nat.eq_of_beq_eq_true hkk
            | false => simp [hkk] at ht
           | any => simp [hoc] at ht
           | al => simp [hoc] at ht
           | lk => simp [hoc] at ht
          have h5 := p5 hok
          unfold RefOk at h5
          cases hoc : o.c with
          | mk dd kk =>
           simp only [hoc] at h5
           obtain ⟨v0, cs0, xs0, q1, q2, q3, q4, q5⟩ := h5
           simp only [pv, Option.some.injEq] at q2
           subst q2
           rw [q5, cutV_none]
          | any => simp only [hoc] at h5; rw [h5.2, cutV_none]
          | al => simp only [hoc] at h5; rw [h5.2, cutV_none]
          | lk => simp only [hoc] at h5
         have htk : rt1 = setRt c.rt id2 ⟨q.virt, q.cells.set 0 ⟨o.hv, o.iv + 1, .any⟩⟩ := by
          simp only [takeRow, hxo] at ht
          cases hrow : rowOf c.rt cs (.ref id2 0 [] none v2) with
          | none => rw [hrow] at ht; cases ht
          | some ys =>
           rw [hrow] at ht
           simp only at ht
           cases hoc : o.c with
           | mk dd kk =>
            simp only [hoc] at ht
            cases hsc : setCellAt c.rt id2 0 ⟨o.hv, o.iv + 1, .any⟩ with
            | none => rw [hsc] at ht; cases ht
            | some rt3 =>
             rw [hsc] at ht
             simp only [Option.some.injEq, Prod.mk.injEq] at ht
             rw [← ht.2.2]
             exact setCellAt_some hq hsc
           | any => simp [hoc] at ht
           | al => simp [hoc] at ht
           | lk => simp [hoc] at ht
         obtain ⟨⟨O2, Z2, u1, u2⟩, _, _, u3⟩ := lay cs xs d rt1 rt2 ht hne hs
         have hlt2 := (List.getElem?_eq_some_iff.1 hqo).1
         have hr1 : rt1 id = some r := by rw [htk, setRt_ne hidne]; exact hr
         have hrt2 := setCellAt_some hr1 hs
         have hq2 : rt2 id2 = some ⟨q.virt, q.cells.set 0 ⟨o.hv, o.iv + 1, .any⟩⟩ := by rw [hrt2, setRt_ne (Ne.symm hidne), htk, setRt_self]
         have hrid : rt2 id = some ⟨r.virt, r.cells.set j ⟨x0.hv + 1, x0.iv + 1, .mk d ⟨.row cs, xs⟩⟩⟩ := by rw [hrt2, setRt_self]
         have hlt1 := (List.getElem?_eq_some_iff.1 hx).1
         obtain ⟨bb, ca, E, fz, w1, w2, w3, w4, w5⟩ := (hc.root id r hr).box hv
         rw [hb] at w1
         obtain rfl : b = bb := by simpa using w1
         have hsb := setCell_sb (v := v) w2 (o := j) (by rw [w3]; exact hlt1)
         have hrv : PV.rootVal (c.w.setCell ⟨b, j, none⟩ v) ⟨r.virt, r.cells.set j ⟨x0.hv + 1, x0.iv + 1, .mk d ⟨.row cs, xs⟩⟩⟩ (c.γ id) j = some v := by
          unfold PV.rootVal
          simp only [hv, hb]
          exact hsb.here
         have hal : PRep1 rt2 (c.w.setCell ⟨b, j, none⟩ v) c.γ Z2 (.ref id j [] none (x0.hv + 1)) v := by
          refine ⟨_, ⟨x0.hv + 1, x0.iv + 1, .mk d ⟨.row cs, xs⟩⟩, v, hrid, List.getElem?_set_self hlt1, hrv, ⟨Nat.le_refl _, by obtain ⟨_, _, _, _, _, _, hsl, _⟩ := hp; exact hsl.2⟩, fun _ => ?_⟩
          exact ⟨v, cs, xs, by simp only [inR], rfl, getP_nil _ _, (fun n h => by cases h), (cutV_none v).symm⟩
         have u3' := Put.to (c := ⟨rt2, c.w.setCell ⟨b, j, none⟩ v, c.γ, O2, Z2⟩) u1.inv hq2 (List.getElem?_set_self hlt2) (x' := ⟨o.hv, o.iv + 1, .al id j [] none (x0.hv + 1)⟩)
          (Put.still u1.inv hq2 O2 Z2 (fun _ _ => rfl) (fun _ _ h => .inl h) (fun _ h => h) (fun _ h => .inl h))
          (fun stb => ⟨c.γ id2, by simp [PV.rootVal, hqv], fun b' hb' => ?_, by rw [← hval]; exact stb _ _ hal⟩) ⟨c.γ id2, by simp [PV.rootVal, hqv]⟩
          (fun rv1 rv2 e1 e2 => by
           rw [e1] at e2
           obtain rfl := Option.some.inj e2
           exact CellCh.forward)
         ·have e := setCellAt_some hq2 h
          subst e
          exact ⟨⟨O2, Z2, u1.trans u3', u2⟩, hcell, hthaw, u3⟩
         ·obtain ⟨rv, w1, w2⟩ := (u1.inv.root id2 _ hq2).cell 0 _ (List.getElem?_set_self hlt2)
          exact w2 b' hb'
     | false =>
      rw [hmv] at h
      simp only [cond_false] at h
      cases hrow : rowOf c.rt cs (.ref id2 j2 st2 cut v2) with
      | none => rw [hrow] at h; cases h
      | some xs =>
       rw [hrow] at h
       simp only at h
       have e := setCellAt_some hr h
       subst e
       obtain ⟨d, F, g1, _⟩ := rowOf_rep hc hrow hp
       refine ⟨⟨_, c.Z, boxSet_to hc hr hx hv hb (k := 0) (x' := ⟨x0.hv + 1, x0.iv + 1, .al id2 j2 st2 cut v2⟩) (Nat.lt_succ_self _) (Nat.lt_succ_self _) nlk ⟨fun b' hb' => ?_, hp⟩, nd_reown fun b k' _ => nd b k'⟩, hcell, hthaw, g1.one⟩
       have := congrFun (reown_cell (O := c.O) (id := id) (j := j) (k := 0)) b'
       rw [this] at hb'
       exact nd b' 0 hb'
   | e =>
    simp only at h
    split at h
    ·rename_i ht; exact lay cs _ _ _ _ ht (by simp) h
    ·cases h
   | cv k =>
    simp only at h
    split at h
    ·rename_i ht; exact lay cs _ _ _ _ ht (by simp) h
    ·cases h
   | dead => simp [takeRow] at h
   | und => simp [takeRow] at h
   | addr => simp [takeRow] at h
   | ra => simp [takeRow] at h
   | agg => simp [takeRow] at h
   | tup => simp [takeRow] at h
  | int k =>
   simp only at h
   split at h
   ·split at h
    ·rename_i ha; exact scal (.int k) _ _ rfl rfl ha h
    ·cases h
   ·cases h
  | bool =>
   simp only at h
   split at h
   ·split at h
    ·rename_i ha; exact scal .bool _ _ rfl rfl ha h
    ·cases h
   ·cases h
  | str =>
   simp only at h
   split at h
   ·split at h
    ·rename_i ha; exact scal .str _ _ rfl rfl ha h
    ·cases h
   ·cases h
end Go.PV

namespace Go.PV
theorem SS.get_set_self : ∀ {cs : SS} {x z : cs.T} {j : Nat} {c : CV}, cs.set x j c = some z → cs.get z j = some c
 | .one s, x, z, 0, c, h => by
  simp only [SS.set] at h
  have := CV.as_some h
  subst this
  rfl
 | .one _, _, _, _ + 1, _, h => by simp [SS.set] at h
 | .cons s cs, x, z, 0, c, h => by
  simp only [SS.set] at h
  cases ha : c.as s with
  | none => rw [ha] at h; cases h
  | some y =>
   rw [ha] at h
   have := CV.as_some ha
   subst this
   obtain rfl := Option.some.inj h
   rfl
 | .cons s cs, x, z, j + 1, c, h => by
  simp only [SS.set] at h
  cases hs : cs.set x.2 j c with
  | none => rw [hs] at h; cases h
  | some y =>
   rw [hs] at h
   obtain rfl := Option.some.inj h
   simp only [SS.get]
   exact SS.get_set_self hs
theorem SS.get_set_ne : ∀ {cs : SS} {x z : cs.T} {j i : Nat} {c : CV}, cs.set x j c = some z → i ≠ j → cs.get z i = cs.get x i
 | .one s, x, z, 0, i, c, h, hi => by
  cases i with
  | zero => exact absurd rfl hi
  | succ i => rfl
 | .one _, _, _, _ + 1, _, _, h, _ => by simp [SS.set] at h
 | .cons s cs, x, z, 0, i, c, h, hi => by
  cases i with
  | zero => exact absurd rfl hi
  | succ i =>
   simp only [SS.set] at h
   cases ha : c.as s with
   | none => rw [ha] at h; cases h
   | some y =>
    rw [ha] at h
    obtain rfl := Option.some.inj h
    rfl
 | .cons s cs, x, z, j + 1, i, c, h, hi => by
  simp only [SS.set] at h
  cases hs : cs.set x.2 j c with
  | none => rw [hs] at h; cases h
  | some y =>
   rw [hs] at h
   obtain rfl := Option.some.inj h
   cases i with
   | zero => rfl
   | succ i =>
    simp only [SS.get]
    exact SS.get_set_ne hs (fun e => hi (by rw [e]))
theorem getD_set_self {α : Type} {xs : List α} {i : Nat} {d z : α} (h : i < xs.length) : List.getD (List.set xs i z) i d = z := by simp [List.getD, h]
theorem getD_set_ne {α : Type} {xs : List α} {i k : Nat} {d z : α} (h : k ≠ i) : List.getD (List.set xs i z) k d = List.getD xs k d := by
 simp [List.getD, List.getElem?_set_ne (Ne.symm h)]
theorem setP_getP : ∀ {st : Way} {s : S} {x y : s.T} {p : CV}, setP s x st p = some y → ∃ c, getP s x st = some c
 | [], s, x, y, p, _ => ⟨_, getP_nil s x⟩
 | (i, j) :: st, .row cs, xs, y, p, h => by
  simp only [setP] at h
  simp only [getP]
  cases hc : cs.get (List.getD xs i cs.d) j with
  | none => rw [hc] at h; cases h
  | some c0 =>
   rw [hc] at h
   simp only at h ⊢
   cases hs : setP c0.s c0.x st p with
   | none => rw [hs] at h; cases h
   | some z => exact setP_getP hs
 | _ :: _, .int _, _, _, _, h | _ :: _, .bool, _, _, _, h | _ :: _, .str, _, _, _, h => by simp [setP] at h
theorem setP_len {i j : Nat} {st : Way} {cs : SS} {xs ys : List cs.T} {p : CV} (h : setP (.row cs) xs ((i, j) :: st) p = some ys) : ys.length = xs.length := by
 simp only [setP] at h
 cases hc : cs.get (List.getD xs i cs.d) j with
 | none => rw [hc] at h; cases h
 | some c0 =>
  rw [hc] at h
  simp only at h
  cases hs : setP c0.s c0.x st p with
  | none => rw [hs] at h; cases h
  | some z =>
   rw [hs] at h
   simp only at h
   cases hz : cs.set (List.getD xs i cs.d) j ⟨c0.s, z⟩ with
   | none => rw [hz] at h; cases h
   | some e =>
    rw [hz] at h
    obtain rfl := Option.some.inj h
    simp
theorem set_keep : ∀ {st : Way} {s : S} {x y : s.T} {p : CV}, setP s x st p = some y → p.s.isRow = false → ∀ {st2 : Way},
  (inR s x st2 → inR s y st2) ∧ (inRA s x st2 → inRA s y st2) ∧ ∀ cs xs, getP s x st2 = some ⟨.row cs, xs⟩ → ∃ xs', getP s y st2 = some ⟨.row cs, xs'⟩ ∧ List.length xs' = List.length xs
 | [], s, x, y, p, h, hp, st2 => by
  rw [setP_nil] at h
  have := CV.as_some h
  subst this
  cases st2 with
  | nil =>
   refine ⟨fun _ => by simp only [inR], fun _ => by simp only [inRA], fun cs xs hg => ?_⟩
   rw [getP_nil] at hg
   obtain ⟨rfl, _⟩ := CV.mk.inj (Option.some.inj hg)
   simp [S.isRow] at hp
  | cons q st2 =>
   cases s with
   | row cs => simp [S.isRow] at hp
   | int k => exact ⟨fun h => by simp only [inR] at h, fun h => by simp only [inRA] at h, fun _ _ h => by simp [getP] at h⟩
   | bool => exact ⟨fun h => by simp only [inR] at h, fun h => by simp only [inRA] at h, fun _ _ h => by simp [getP] at h⟩
   | str => exact ⟨fun h => by simp only [inR] at h, fun h => by simp only [inRA] at h, fun _ _ h => by simp [getP] at h⟩
 | (i, j) :: st, .row cs, xs, ys, p, h, hp, st2 => by
  have hlen := setP_len h
  simp only [setP] at h
  cases hc : cs.get (List.getD xs i cs.d) j with
  | none => rw [hc] at h; cases h
  | some c0 =>
   rw [hc] at h
   simp only at h
   cases hs : setP c0.s c0.x st p with
   | none => rw [hs] at h; cases h
   | some z =>
    rw [hs] at h
    simp only at h
    cases hz : cs.set (List.getD xs i cs.d) j ⟨c0.s, z⟩ with
    | none => rw [hz] at h; cases h
    | some e =>
     rw [hz] at h
     obtain rfl := Option.some.inj h
     cases st2 with
     | nil =>
      refine ⟨fun _ => by simp only [inR], fun _ => by simp only [inRA], fun cs' xs' hg => ?_⟩
      rw [getP_nil] at hg
      obtain ⟨e1, e2⟩ := CV.mk.inj (Option.some.inj hg)
      obtain rfl := S.row.inj e1
      obtain rfl := eq_of_heq e2
      exact ⟨_, getP_nil _ _, hlen⟩
     | cons q st2 =>
      obtain ⟨i2, j2⟩ := q
      have key : i2 < xs.length → ∀ c2, cs.get (List.getD xs i2 cs.d) j2 = some c2 → ∃ z2 : c2.s.T, cs.get (List.getD (List.set xs i e) i2 cs.d) j2 = some ⟨c2.s, z2⟩ ∧
        (z2 = c2.x ∨ (c2 = c0 ∧ HEq z2 z)) := by
       intro hi2 c2 h2
       by_cases hii : i2 = i
       ·subst hii
        rw [getD_set_self hi2]
        by_cases hjj : j2 = j
        ·subst hjj
         rw [hc] at h2
         obtain rfl := Option.some.inj h2
         exact ⟨z, SS.get_set_self hz, .inr ⟨rfl, HEq.rfl⟩⟩
        ·exact ⟨c2.x, (SS.get_set_ne hz hjj).trans h2, .inl rfl⟩
       ·rw [getD_set_ne hii]
        exact ⟨c2.x, h2, .inl rfl⟩
      refine ⟨fun hr => ?_, fun hr => ?_, fun cs' xs' hg => ?_⟩
      ·simp only [inR] at hr ⊢
       obtain ⟨h1, c2, h2, h3⟩ := hr
       obtain ⟨z2, k1, k2⟩ := key h1 c2 h2
       refine ⟨by rw [hlen]; exact h1, _, k1, ?_⟩
       rcases k2 with rfl | ⟨rfl, k2⟩
       ·exact h3
       ·obtain rfl := eq_of_heq k2
        exact (set_keep hs hp).1 h3
      ·cases st2 with
       | nil =>
        simp only [inRA] at hr ⊢
        exact ⟨by rw [hlen]; exact hr.1, trivial⟩
       | cons q st2 =>
        rw [inRA] at hr ⊢
        obtain ⟨h1, c2, h2, h3⟩ := hr
        obtain ⟨z2, k1, k2⟩ := key h1 c2 h2
        refine ⟨by rw [hlen]; exact h1, _, k1, ?_⟩
        rcases k2 with rfl | ⟨rfl, k2⟩
        ·exact h3
        ·obtain rfl := eq_of_heq k2
         exact (set_keep hs hp).2.1 h3
      ·simp only [getP] at hg ⊢
       cases h2 : cs.get (List.getD xs i2 cs.d) j2 with
       | none => rw [h2] at hg; cases hg
       | some c2 =>
        rw [h2] at hg
        simp only at hg
        by_cases h1 : i2 < xs.length
        ·obtain ⟨z2, k1, k2⟩ := key h1 c2 h2
         rw [k1]
         simp only
         rcases k2 with rfl | ⟨rfl, k2⟩
         ·exact ⟨xs', hg, rfl⟩
         ·obtain rfl := eq_of_heq k2
          exact (set_keep hs hp).2.2 cs' xs' hg
        ·have : List.getD (List.set xs i e) i2 cs.d = List.getD xs i2 cs.d := by
          simp [List.getD, h1]
         rw [this, h2]
         exact ⟨xs', hg, rfl⟩
 | _ :: _, .int _, _, _, _, h, _, _ | _ :: _, .bool, _, _, _, h, _, _ | _ :: _, .str, _, _, _, h, _, _ => by simp [setP] at h
theorem Rep.slice {w : World} {Z : Fp} {s : S} {d : Nat} {x : s.T} {v : Value} {F : Fp} (h : Rep w Z s d x v F) : s.isRow = true ↔ isSlice v := by
 cases s with
 | int k => obtain ⟨rfl, _⟩ := h; simp [S.isRow, isSlice]
 | bool => obtain ⟨rfl, _⟩ := h; simp [S.isRow, isSlice]
 | str => obtain ⟨rfl, _⟩ := h; simp [S.isRow, isSlice]
 | row cs => simp only [Rep] at h; obtain ⟨A, cap, rfl, _⟩ := h; simp [S.isRow, isSlice]
theorem inRA_row {s : S} {x : s.T} {q : Nat × Nat} {st : Way} (h : inRA s x (q :: st)) : s.isRow = true := by
 cases s with
 | row cs => rfl
 | int k => simp only [inRA] at h
 | bool => simp only [inRA] at h
 | str => simp only [inRA] at h
theorem pa_scalar {w w' : World} {Z : Fp} {b o : Nat} (hb : ∀ a, w.cell? ⟨b, o, none⟩ = some a → ¬ isSlice a) (hw : ∀ b' o', ¬ (b' = b ∧ o' = o) → w'.cell? ⟨b', o', none⟩ = w.cell? ⟨b', o', none⟩) :
  ∀ {st : Way} {s : S} {d : Nat} {x : s.T} {v : Value} {F : Fp}, Rep w Z s d x v F → inRA s x st → pa w' s v st = pa w s v st
 | [], s, _, _, v, _, _, _ => by cases s <;> cases v <;> first | rfl | simp [pa]
 | [(i, j)], .row cs, d, xs, v, F, h, hr => by cases v <;> first | rfl | (rename_i a _ _; cases a <;> simp [pa])
 | (i, j) :: y :: st, .row cs, d, xs, v, F, h, hr => by
  rw [inRA] at hr
  obtain ⟨hi, c, hg, hr⟩ := hr
  obtain ⟨a, n, cap, Fi, h1, h2, h3, h4, h5⟩ := h.elem hi
  obtain ⟨v1, F1, g1, g2, g3, _⟩ := RepC.focus h3 hg
  subst h1
  have hsl : isSlice v1 := g2.slice.1 (inRA_row hr)
  have hc : w'.cell? ⟨a.block, a.off + i * cs.size + j, none⟩ = w.cell? ⟨a.block, a.off + i * cs.size + j, none⟩ := hw _ _ fun ⟨e1, e2⟩ => by
   rw [e1, e2] at g1
   exact hb _ g1 hsl
  have ih := pa_scalar hb hw (st := y :: st) g2 hr
  simp only [pa, hc, g1, (SS.get_at hg).1]
  exact ih
 | _ :: _, .int _, _, _, _, _, _, hr | _ :: _, .bool, _, _, _, _, _, hr | _ :: _, .str, _, _, _, _, _, hr => by simp only [inRA] at hr
theorem pv_scalar {w w' : World} {Z : Fp} {b o : Nat} (hb : ∀ a, w.cell? ⟨b, o, none⟩ = some a → ¬ isSlice a) (hw : ∀ b' o', ¬ (b' = b ∧ o' = o) → w'.cell? ⟨b', o', none⟩ = w.cell? ⟨b', o', none⟩)
  {st : Way} {s : S} {d : Nat} {x : s.T} {v v0 : Value} {F : Fp} {c : CV} (h : Rep w Z s d x v F) (hr : inR s x st) (hg : getP s x st = some c) (hc : c.s.isRow = true) (hv : pv w s v st = some v0) : pv w' s v st = some v0 := by
 cases st with
 | nil => exact hv
 | cons y st =>
  obtain ⟨c', v', F', k1, k2, k3, k4, hne⟩ := path_read h hr
  obtain ⟨b', o', h1, h2, h3⟩ := hne (by simp)
  rw [hg] at k1
  obtain rfl := Option.some.inj k1
  rw [hv] at k2
  obtain rfl := Option.some.inj k2
  simp only [pv, pa_scalar hb hw h (inR_RA hr), h1]
  rw [hw b' o' fun ⟨e1, e2⟩ => by
   subst e1 e2
   exact hb _ h2 (k3.slice.1 hc)]
  exact h2
theorem CellCh.scalar {w w' : World} {Z : Fp} {rv : Value} {hv iv d : Nat} {k0 : CV} {F : Fp} (h : Rep w Z k0.s d k0.x rv F) {st : Way} {p : CV} {y : k0.s.T} (hs : setP k0.s k0.x st p = some y) (hp : p.s.isRow = false)
  {b o : Nat} (hb : ∀ a, w.cell? ⟨b, o, none⟩ = some a → ¬ isSlice a) (hw : ∀ b' o', ¬ (b' = b ∧ o' = o) → w'.cell? ⟨b', o', none⟩ = w.cell? ⟨b', o', none⟩) :
  CellCh w w' rv rv ⟨hv, iv, .mk d k0⟩ ⟨hv, iv, .mk d ⟨k0.s, y⟩⟩ := by
 have refs : ∀ st2 cut v, RefOk w rv ⟨hv, iv, .mk d k0⟩ st2 cut v → RefOk w' rv ⟨hv, iv, .mk d ⟨k0.s, y⟩⟩ st2 cut v := by
  intro st2 cut v hr
  unfold RefOk at *
  obtain ⟨v0, cs, xs, h1, h2, h3, h4, h5⟩ := hr
  obtain ⟨q1, q2, q3⟩ := set_keep hs hp (st2 := st2)
  obtain ⟨xs', r1, r2⟩ := q3 cs xs h3
  exact ⟨v0, cs, xs', q1 h1, pv_scalar hb hw h h1 h3 rfl h2, r1, fun n hn => by rw [r2]; exact h4 n hn, h5⟩
 refine ⟨Nat.le_refl _, Nat.le_refl _, fun _ => refs [], fun _ q st2 => refs (q :: st2), fun _ q st2 v hr => ?_, fun _ h => by cases h⟩
 unfold AddrOk at *
 obtain ⟨b', o', h1, h2, h3⟩ := hr
 exact ⟨b', o', (set_keep hs hp).2.1 h1, (pa_scalar hb hw h h1).trans h2, h3⟩
theorem CellCh.inner {w w' : World} {rv : Value} {hv iv d d' : Nat} {k0 : CV} {q : Nat × Nat} {st : Way} {p : CV} {y : k0.s.T} (hs : setP k0.s k0.x (q :: st) p = some y) :
  CellCh w w' rv rv ⟨hv, iv, .mk d k0⟩ ⟨hv, iv + 1, .mk d' ⟨k0.s, y⟩⟩ := by
 refine ⟨Nat.le_refl _, Nat.le_succ _, fun _ cut v hr => ?_, fun h => by simp at h, fun h => by simp at h, fun _ h => by cases h⟩
 unfold RefOk at *
 obtain ⟨v0, cs, xs, h1, h2, h3, h4, h5⟩ := hr
 obtain ⟨ks, kx⟩ := k0
 simp only [getP_nil, Option.some.injEq, CV.mk.injEq] at h3
 obtain ⟨rfl, h3⟩ := h3
 obtain rfl := eq_of_heq h3
 exact ⟨v0, cs, y, by simp only [inR], h2, getP_nil _ _, fun n hn => by rw [setP_len hs]; exact h4 n hn, h5⟩
end Go.PV

namespace Go.PV
theorem To.still {c : Cf} (hc : c.Inv) (O' : Own) (Z' : Fp) (ho : ∀ b s, (∀ k, s ≠ .det k) → (O' b = some s ↔ c.O b = some s)) (ho' : ∀ b s, O' b = some s → c.O b = some s)
  (hz : ∀ b, c.Z b → Z' b) (hz' : ∀ b, Z' b → c.Z b ∨ ((∃ k, c.O b = some (.det k)) ∧ O' b = none)) : To c ⟨c.rt, c.w, c.γ, O', Z'⟩ := by
 have e1 : ∀ i k, (fun b => O' b = some (.cell i k)) = (fun b => c.O b = some (.cell i k)) := fun i k => by
  funext b; exact propext (ho b _ (by simp))
 have chg : Chg c ⟨c.rt, c.w, c.γ, O', Z'⟩ := by
  refine ⟨hz, fun _ _ => rfl, fun id r hr => ⟨r, hr, rfl, rfl, fun j x rv hx hv => ⟨x, rv, hx, hv, ?_⟩⟩⟩
  obtain ⟨rv', h1, h2⟩ := (hc.root id r hr).cell j x hx
  rw [hv] at h1
  obtain rfl := Option.some.inj h1
  exact CellCh.same (Z := c.Z) (F := fun b => c.O b = some (.cell id j)) (fun d e he => by rw [he] at h2; exact h2) fun _ _ => rfl
 refine ⟨⟨fun id r hr => ?_, fun b hb => ?_, fun b hb => ?_, fun b s hs => hc.os b s (ho' b s hs), fun b i k hb => hc.oi b i k (ho' b _ hb), fun b i hb => hc.ob b i (ho' b _ hb)⟩, chg.lk, chg.stb,
  ⟨Nat.le_refl _, fun b _ hb => ⟨rfl, ?_⟩, hz, fun b hb => ?_, fun _ h => h, SameEnv.refl _⟩⟩
 ·have hk := hc.root id r hr
  refine ⟨fun hv => ⟨(hk.virt hv).1, fun b hb => (hk.virt hv).2 b (ho' b _ hb)⟩, fun hv => ?_, fun j x hx => ?_, fun j hj b hb => hk.beyond j hj b (ho' b _ hb)⟩
  ·obtain ⟨b, ca, E, fz, h1, h2, h3, h4, h5⟩ := hk.box hv
   exact ⟨b, ca, E, fz, h1, h2, h3, h4, fun b' => (ho b' _ (by simp)).trans (h5 b')⟩
  ·obtain ⟨rv, h1, h2⟩ := hk.cell j x hx
   refine ⟨rv, h1, ?_⟩
   have hn : (∀ b, c.O b ≠ some (.cell id j)) → ∀ b, O' b ≠ some (.cell id j) := fun hn b hb => hn b (ho' b _ hb)
   cases hcx : x.c with
   | mk d e =>
    rw [hcx] at h2
    show Rep c.w Z' e.s d e.x rv (fun b => O' b = some (.cell id j))
    rw [e1]
    exact h2.mono hz
   | lk e => rw [hcx] at h2; exact ⟨h2.1.mono hz, hn h2.2⟩
   | any => rw [hcx] at h2; exact hn h2
   | al => rw [hcx] at h2; exact ⟨hn h2.1, chg.stb _ _ h2.2⟩
 ·rcases hz' b hb with h | ⟨_, h⟩
  ·cases h2 : O' b with
   | none => exact h2
   | some s => have := ho' b s h2; rw [hc.zo b h] at this; cases this
  ·exact h
 ·rcases hz' b hb with h | ⟨⟨k, h⟩, _⟩
  ·exact hc.zs b h
  ·exact hc.os b _ h
 ·cases h2 : O' b with
  | none => exact h2
  | some s => have := ho' b s h2; rw [hb] at this; cases this
 ·rcases hz' b hb with h | ⟨⟨k, h⟩, _⟩
  ·exact .inl h
  ·exact .inr (.inl (by rw [h]; simp))
theorem piece_weaken {c : Cf} (hc : c.Inv) {s : S} {d t k : Nat} {x : s.T} {v : Value} (hp : Rep c.w c.Z s d x v (fun b => c.O b = some (.det k))) (ht : t ≤ d) :
  ∃ O' Z', To c ⟨c.rt, c.w, c.γ, O', Z'⟩ ∧ Rep c.w Z' s t x v (fun b => O' b = some (.det k)) ∧ ∀ b k', k' ≠ k → (O' b = some (.det k') ↔ c.O b = some (.det k')) := by
 obtain ⟨F', f1, f2⟩ := hp.weaken t ht
 have hdec : ∀ b, Decidable (F' b) := fun b => Classical.propDecidable _
 have hdec2 : ∀ b, Decidable (c.O b = some (.det k)) := fun b => Classical.propDecidable _
 refine ⟨fun b => if c.O b = some (.det k) then (if F' b then some (.det k) else none) else c.O b, fun b => c.Z b ∨ (c.O b = some (.det k) ∧ ¬ F' b), To.still hc _ _ (fun b s hs => ?_) (fun b s hs => ?_) (fun b hb => .inl hb) (fun b hb => hb.imp (fun h => h) fun ⟨h1, h2⟩ => ⟨⟨k, h1⟩, by simp only [if_pos h1, if_neg h2]⟩), ?_, fun b k' hk => ?_⟩
 ·show (if c.O b = some (.det k) then (if F' b then some (Site.det k) else none) else c.O b) = some s ↔ _
  split
  ·rename_i hb
   rw [hb]
   simp only [Option.some.injEq]
   constructor
   ·intro h
    split at h
    ·exact absurd (Option.some.inj h).symm (hs k)
    ·cases h
   ·intro h; exact absurd h.symm (hs k)
  ·rfl
 ·split at hs
  ·rename_i hb
   split at hs
   ·rw [hb]; exact hs
   ·cases hs
  ·exact hs
 ·have e : (fun b => (if c.O b = some (.det k) then (if F' b then some (Site.det k) else none) else c.O b) = some (.det k)) = F' := by
   funext b
   apply propext
   constructor
   ·intro hb
    split at hb
    ·split at hb
     ·assumption
     ·cases hb
    ·contradiction
   ·intro hb
    rw [if_pos (f1 b hb), if_pos hb]
  rw [e]
  exact f2
 ·show (if c.O b = some (.det k) then (if F' b then some (Site.det k) else none) else c.O b) = some (.det k') ↔ _
  split
  ·rename_i hb
   rw [hb]
   simp only [Option.some.injEq, Site.det.injEq]
   constructor
   ·intro h
    split at h
    ·simp only [Option.some.injEq, Site.det.injEq] at h; exact absurd h.symm hk
    ·cases h
   ·intro h; exact absurd h.symm hk
  ·rfl
theorem piece_lift {c : Cf} (hc : c.Inv) {s : S} {d t k : Nat} {x : s.T} {v : Value} (hp : Rep c.w c.Z s d x v (fun b => c.O b = some (.det k))) (ht : t ≤ lift s d) :
  ∃ O' Z', To c ⟨c.rt, c.w, c.γ, O', Z'⟩ ∧ Rep c.w Z' s t x v (fun b => O' b = some (.det k)) ∧ ∀ b k', k' ≠ k → (O' b = some (.det k') ↔ c.O b = some (.det k')) := by
 by_cases hd : s.depth ≤ d
 ·by_cases ht2 : s.depth ≤ t
  ·exact ⟨c.O, c.Z, To.refl hc, Rep.deep hd ht2 hp, fun _ _ _ => Iff.rfl⟩
  ·exact piece_weaken hc hp (by omega)
 ·have : lift s d = d := by
   unfold lift
   rw [show Nat.ble s.depth d = false by rw [← Bool.not_eq_true, Nat.ble_eq]; exact hd]
   rfl
  rw [this] at ht
  exact piece_weaken hc hp ht
theorem drop_to {c : Cf} (hc : c.Inv) : ∃ O', To c ⟨c.rt, c.w, c.γ, O', c.Z⟩ ∧ ND O' := by
 refine ⟨fun b => match c.O b with | some (.det _) => none | o => o, To.still hc _ _ (fun b s hs => ?_) (fun b s hs => ?_) (fun _ h => h) (fun _ h => .inl h), fun b k hb => ?_⟩
 ·cases ho : c.O b with
  | none => simp
  | some s2 => cases s2 with
   | det k => simp only [Option.some.injEq, reduceCtorEq, false_iff]; exact fun h => hs k h.symm
   | cell => simp
   | box => simp
 ·cases ho : c.O b with
  | none => simp [ho] at hs
  | some s2 => cases s2 <;> simp_all
 ·cases ho : c.O b with
  | none => simp [ho] at hb
  | some s2 => cases s2 <;> simp_all
theorem putElem_to {c : Cf} (hc : c.Inv) (nd : ND c.O) {id j n : Nat} {q : Nat × Nat} {st : Way} {s : S} {p : P} {v va : Value} {rt' : Rt}
  (h : putElem c.rt id j (q :: st) n s p = some rt') (ha : c.P1 (.addr id j (q :: st) n) va) (hp : c.P1 p v) : ∃ ad, va = .pointer (some ad) ∧ Stored c ad v rt' := by
 unfold putElem at h
 cases hx0 : cellAt c.rt id j with
 | none => rw [hx0] at h; cases h
 | some x0 =>
  obtain ⟨r, hr, hx⟩ := cellAt_some hx0
  rw [hx0] at h
  simp only at h
  cases hxc : x0.c with
  | any => simp only [hxc] at h; cases h
  | al => simp only [hxc] at h; cases h
  | lk => simp only [hxc] at h; cases h
  | mk d k0 =>
   simp only [hxc] at h
   cases hg : (x0.ok (q :: st) n && Nat.ble (q :: st).length d) with
   | false => rw [hg] at h; cases h
   | true =>
    rw [hg] at h
    simp only [cond_true] at h
    simp only [Bool.and_eq_true, Nat.ble_eq] at hg
    obtain ⟨hok, hld⟩ := hg
    have hn : n = x0.iv := Nat.eq_of_beq_eq_true hok
    have where_ : ∀ {c' : Cf}, c'.Inv → c'.P1 (.addr id j (q :: st) n) va → ∀ {r' : Root} {x' : VC} {d' : Nat} {k' : CV}, c'.rt id = some r' → r'.cells[j]? = some x' → x'.c = .mk d' k' → n = x'.iv →
      ∃ rv b o, PV.rootVal c'.w r' (c'.γ id) j = some rv ∧ inRA k'.s k'.x (q :: st) ∧ pa c'.w k'.s rv (q :: st) = some (b, o) ∧ va = .pointer (some ⟨b, o, none⟩) := by
     intro c' _ ha' r' x' d' k' hr' hx' hxc' hn'
     obtain ⟨r2, p1, x2, rv, p2, p3, p4, p5⟩ := ha'
     rw [hr'] at p1
     obtain rfl := Option.some.inj p1
     rw [hx'] at p2
     obtain rfl := Option.some.inj p2
     have h5 := p5 hn'
     unfold AddrOk at h5
     simp only [hxc'] at h5
     obtain ⟨b, o, h6, h7, h8⟩ := h5
     exact ⟨rv, b, o, p3, h6, h7, h8⟩
    have scal : ∀ (s : S) (q0 : CV) (y0 : s.T), s.isRow = false → s.depth = 0 → p = .cv q0 → q0.as s = some y0 → (match setP k0.s k0.x (q :: st) ⟨s, y0⟩ with
      | some y => setCellAt c.rt id j ⟨x0.hv, x0.iv, .mk d ⟨k0.s, y⟩⟩
      | none => none) = some rt' → ∃ ad, va = .pointer (some ad) ∧ Stored c ad v rt' := by
     intro s q0 y0 hrow hs he has h9
     subst he
     have := CV.as_some has
     subst this
     cases hset : setP k0.s k0.x (q :: st) ⟨s, y0⟩ with
     | none => rw [hset] at h9; cases h9
     | some y =>
      rw [hset] at h9
      obtain ⟨rv, b, o, w1, w2, w3, w4⟩ := where_ hc ha hr hx hxc hn
      obtain ⟨cg, hcg⟩ := setP_getP hset
      have hp' : Rep c.w c.Z s 0 y0 v nil' := hp
      obtain ⟨rv2, e1, e2⟩ := (hc.root id r hr).cell j x0 hx
      rw [w1] at e1
      obtain rfl := Option.some.inj e1
      rw [hxc] at e2
      have e2 : Rep c.w c.Z k0.s d k0.x rv (fun b => c.O b = some (.cell id j)) := e2
      have hin := inRA_R w2 hcg
      obtain ⟨c1, v1, F1, k1, k2, k3, k4, k5⟩ := path_read e2 hin
      obtain ⟨b1, o1, k6, k7, k8⟩ := k5 (by simp)
      rw [w3] at k6
      obtain ⟨rfl, rfl⟩ := Prod.mk.inj (Option.some.inj k6)
      have hshape := setP_shape hset k1
      have hns : ∀ a, c.w.cell? ⟨b, o, none⟩ = some a → ¬ isSlice a := fun a ha hsl => by
       rw [k7] at ha
       obtain rfl := Option.some.inj ha
       have := k3.slice.2 hsl
       rw [← hshape] at this
       rw [hrow] at this
       cases this
      obtain ⟨b2, o2, O', m1, m2, m3, m4, m5⟩ := elemSet_to hc hr hx hxc (by simp) hld w1 hin (k := 0) (u := v) (p := ⟨s, y0⟩) (by
        rw [nd_nil nd 0]
        exact Rep.deep (by show s.depth ≤ 0; omega) (by show s.depth ≤ _; omega) hp') hset (x' := ⟨x0.hv, x0.iv, .mk d ⟨k0.s, y⟩⟩) rfl (fun b' o' hpa hsb => by
       rw [w3] at hpa
       obtain ⟨rfl, rfl⟩ := Prod.mk.inj (Option.some.inj hpa)
       obtain ⟨hv0, iv0, xc0⟩ := x0
       simp only at hxc
       subst hxc
       refine CellCh.scalar e2 hset hrow hns fun b' o' hne => ?_
       by_cases hbb : b' = b
       ·subst hbb; exact hsb.other fun e => hne ⟨rfl, e⟩
       ·exact cell_of_heap (setCell_other hbb))
      rw [w3] at m1
      obtain ⟨rfl, rfl⟩ := Prod.mk.inj (Option.some.inj m1)
      have e := setCellAt_some hr h9
      subst e
      obtain ⟨O5, d1', d2'⟩ := drop_to m4.inv
      exact ⟨_, w4, ⟨O5, c.Z, m4.trans d1', d2'⟩, m3, m2, hp'.one⟩
    cases s with
    | row cs =>
     simp only at h
     cases ht : takeRow c.rt cs p with
     | none => rw [ht] at h; cases h
     | some y =>
      obtain ⟨xs, dv, rt1⟩ := y
      rw [ht] at h
      simp only at h
      obtain ⟨O1, Z1, t1, t2, t3⟩ := takeRow_to hc ht hp (k := 0) (fun b => nd b 0)
      cases hx1 : cellAt rt1 id j with
      | none => rw [hx1] at h; cases h
      | some x1 =>
       obtain ⟨r1, hr1, hxj1⟩ := cellAt_some hx1
       rw [hx1] at h
       simp only at h
       cases hxc1 : x1.c with
       | any => simp only [hxc1] at h; cases h
       | al => simp only [hxc1] at h; cases h
       | lk => simp only [hxc1] at h; cases h
       | mk d1 c1 =>
        simp only [hxc1] at h
        cases hg1 : (x1.ok (q :: st) n && Nat.ble (q :: st).length d1) with
        | false => rw [hg1] at h; cases h
        | true =>
         rw [hg1] at h
         simp only [cond_true] at h
         simp only [Bool.and_eq_true, Nat.ble_eq] at hg1
         obtain ⟨hok1, hld1⟩ := hg1
         have hn1 : n = x1.iv := Nat.eq_of_beq_eq_true hok1
         cases hset : setP c1.s c1.x (q :: st) ⟨.row cs, xs⟩ with
         | none => rw [hset] at h; cases h
         | some y =>
          rw [hset] at h
          simp only at h
          have ha1 := t1.stb _ _ ha
          have hfz : ∃ rt2, freezeAt rt1 id j ((q :: st).length + lift (.row cs) dv) = some rt2 := by
           unfold freezeAt setCellAt
           rw [hx1]
           simp only [hxc1, hr1]
           exact ⟨_, rfl⟩
          obtain ⟨rt2, hfz⟩ := hfz
          obtain ⟨O2, Z2, u1, u2⟩ := freeze_to (c := ⟨rt1, c.w, c.γ, O1, Z1⟩) t1.inv hfz
          have hrt2 : rt2 = setRt rt1 id ⟨r1.virt, r1.cells.set j ⟨x1.hv, x1.iv, .mk (min d1 ((q :: st).length + lift (.row cs) dv)) c1⟩⟩ := by
           unfold freezeAt at hfz
           rw [hx1] at hfz
           simp only [hxc1] at hfz
           exact setCellAt_some hr1 hfz
          have ha2 := u1.stb _ _ ha1
          have hlt := (List.getElem?_eq_some_iff.1 hxj1).1
          have hr2 : rt2 id = some ⟨r1.virt, r1.cells.set j ⟨x1.hv, x1.iv, .mk (min d1 ((q :: st).length + lift (.row cs) dv)) c1⟩⟩ := by rw [hrt2, setRt_self]
          have hx2 : (r1.cells.set j ⟨x1.hv, x1.iv, .mk (min d1 ((q :: st).length + lift (.row cs) dv)) c1⟩)[j]? = some ⟨x1.hv, x1.iv, .mk (min d1 ((q :: st).length + lift (.row cs) dv)) c1⟩ := List.getElem?_set_self hlt
          have hp2 : Rep c.w Z2 (.row cs) dv xs v (fun b => O2 b = some (.det 0)) := by
           have e : (fun b => O2 b = some (.det 0)) = (fun b => O1 b = some (.det 0)) := by funext b; exact propext (u2 b 0)
           rw [e]
           exact t2.mono u1.ext.z
          obtain ⟨O3, Z3, v1, v2, v3⟩ := piece_lift (c := ⟨rt2, c.w, c.γ, O2, Z2⟩) u1.inv hp2 (t := min d1 ((q :: st).length + lift (.row cs) dv) - (q :: st).length) (by omega)
          have ha3 := v1.stb _ _ ha2
          obtain ⟨rv, b, o, w1, w2, w3, w4⟩ := where_ (c' := ⟨rt2, c.w, c.γ, O3, Z3⟩) v1.inv ha3 hr2 hx2 rfl hn1
          obtain ⟨cg, hcg⟩ := setP_getP hset
          obtain ⟨b2, o2, O4, m1, m2, m3, m4, m5⟩ := elemSet_to (c := ⟨rt2, c.w, c.γ, O3, Z3⟩) v1.inv hr2 hx2 rfl (by simp) (by omega) w1 (inRA_R w2 hcg) (k := 0) (u := v) (p := ⟨.row cs, xs⟩) v2 hset
           (x' := ⟨x1.hv, x1.iv + 1, .mk (min d1 ((q :: st).length + lift (.row cs) dv)) ⟨c1.s, y⟩⟩) rfl (fun b' o' _ _ => CellCh.inner hset)
          rw [w3] at m1
          obtain ⟨rfl, rfl⟩ := Prod.mk.inj (Option.some.inj m1)
          have e := setCellAt_some hr1 h
          have ef : (Cf.put ⟨rt2, c.w, c.γ, O3, Z3⟩ id j ⟨r1.virt, r1.cells.set j ⟨x1.hv, x1.iv, .mk (min d1 ((q :: st).length + lift (.row cs) dv)) c1⟩⟩ ⟨x1.hv, x1.iv + 1, .mk (min d1 ((q :: st).length + lift (.row cs) dv)) ⟨c1.s, y⟩⟩ (c.w.setCell ⟨b, o, none⟩ v) O4 Z3).rt = rt' := by
           rw [e]
           show setRt rt2 id _ = _
           rw [hrt2, setRt_set, List.set_set]
          have fin := (((t1.trans u1).trans v1).trans m4)
          obtain ⟨O5, d1', d2'⟩ := drop_to fin.inv
          have fin2 := fin.trans d1'
          refine ⟨_, w4, ⟨O5, Z3, ?_, d2'⟩, m3, m2, t2.one⟩
          rw [← ef]
          exact fin2
    | int k =>
     simp only at h
     split at h
     ·split at h
      ·rename_i ha'; exact scal (.int k) _ _ rfl rfl rfl ha' h
      ·cases h
     ·cases h
    | bool =>
     simp only at h
     split at h
     ·split at h
      ·rename_i ha'; exact scal .bool _ _ rfl rfl rfl ha' h
      ·cases h
     ·cases h
    | str =>
     simp only at h
     split at h
     ·split at h
      ·rename_i ha'; exact scal .str _ _ rfl rfl rfl ha' h
      ·cases h
     ·cases h
end Go.PV

namespace Go.PV
theorem add_none (b o k : Nat) : (⟨b, o, none⟩ : Addr).add k = ⟨b, o + k, none⟩ := by
 unfold Addr.add
 split
 ·rename_i h; subst h; rfl
 ·rfl
def shiftV : Value → Nat → Value
 | .pointer (some a), k => .pointer (some (a.add k))
 | v, _ => v
theorem lastAdd_cons (x y : Nat × Nat) (l : Way) (k : Nat) : lastAdd (x :: y :: l) k = x :: lastAdd (y :: l) k := rfl
theorem lastAdd_ne (q : Nat × Nat) (st : Way) (k : Nat) : ∃ q' st', lastAdd (q :: st) k = q' :: st' := by
 cases st with
 | nil => exact ⟨(q.1, q.2 + k), [], rfl⟩
 | cons y l => exact ⟨q, lastAdd (y :: l) k, rfl⟩
theorem way_shift {w : World} : ∀ {st : Way} {s : S} {x : s.T} {v : Value} {b o k : Nat}, st ≠ [] → inRA s x st → pa w s v st = some (b, o) → inRA s x (lastAdd st k) ∧ pa w s v (lastAdd st k) = some (b, o + k)
 | [], _, _, _, _, _, _, hne, _, _ => absurd rfl hne
 | [(i, j)], .row cs, xs, v, b, o, k, _, hr, hp => by
  simp only [inRA] at hr
  refine ⟨by simp only [lastAdd, inRA]; exact hr, ?_⟩
  cases v with
  | slice a n cap =>
   cases a with
   | none => simp [pa] at hp
   | some a =>
    simp only [pa, Option.some.injEq, Prod.mk.injEq] at hp
    obtain ⟨rfl, rfl⟩ := hp
    simp only [lastAdd, pa, Nat.add_assoc]
  | _ => simp [pa] at hp
 | (i, j) :: y :: st, .row cs, xs, v, b, o, k, _, hr, hp => by
  rw [inRA] at hr
  obtain ⟨h1, c, h2, h3⟩ := hr
  cases v with
  | slice a n cap =>
   cases a with
   | none => simp [pa] at hp
   | some a =>
    simp only [pa] at hp
    cases hc : w.cell? ⟨a.block, a.off + i * cs.size + j, none⟩ with
    | none => simp [hc] at hp
    | some v1 =>
     simp only [hc, (SS.get_at h2).1] at hp
     obtain ⟨k1, k2⟩ := way_shift (k := k) (st := y :: st) (by simp) h3 hp
     obtain ⟨q', st', e⟩ := lastAdd_ne y st k
     rw [lastAdd_cons, e]
     rw [e] at k1 k2
     refine ⟨by rw [inRA]; exact ⟨h1, c, h2, k1⟩, ?_⟩
     simp only [pa, hc, (SS.get_at h2).1]
     exact k2
  | _ => simp [pa] at hp
 | _ :: _, .int _, _, _, _, _, _, _, hr, _ | _ :: _, .bool, _, _, _, _, _, _, hr, _ | _ :: _, .str, _, _, _, _, _, _, hr, _ => by simp only [inRA] at hr
theorem isPtr_shift {v : Value} {k : Nat} (h : isPtr v) : isPtr (shiftV v k) := by
 cases v with
 | pointer p => cases p with
  | some a => trivial
  | none => exact h.elim
 | _ => exact h.elim
theorem moveOn_rep {c : Cf} {a q : P} {va : Value} {k : Nat} (h : moveOn a k = some q) (ha : c.P1 a va) : c.P1 q (shiftV va k) := by
 cases a with
 | addr id j st n =>
  obtain ⟨r, hr, hh⟩ := ha
  cases st with
  | nil =>
   simp only [moveOn, Option.some.injEq] at h
   subst h
   obtain ⟨h1, b, h2, rfl⟩ := hh
   exact ⟨r, hr, h1, b, h2, by simp only [shiftV, add_none]⟩
  | cons y st =>
   simp only [moveOn, Option.some.injEq] at h
   subst h
   obtain ⟨q', st', e⟩ := lastAdd_ne y st k
   obtain ⟨x, rv, h1, h2, h3, h4⟩ := hh
   refine ⟨r, hr, ?_⟩
   rw [e]
   refine ⟨x, rv, h1, h2, ⟨h3.1, isPtr_shift h3.2⟩, fun hn => ?_⟩
   have := h4 hn
   unfold AddrOk at *
   cases hxc : x.c with
   | mk d k0 =>
    simp only [hxc] at this ⊢
    obtain ⟨b, o, g1, g2, rfl⟩ := this
    obtain ⟨k1, k2⟩ := way_shift (k := k) (by simp) g1 g2
    rw [e] at k1 k2
    exact ⟨b, o + k, k1, k2, by simp only [shiftV, add_none]⟩
   | any => simp only [hxc] at this
   | al => simp only [hxc] at this
   | lk => simp only [hxc] at this
 | ra cs xs i j =>
  simp only [moveOn, Option.some.injEq] at h
  subst h
  obtain ⟨sv, b, o, h1, h2, h3, rfl⟩ := ha
  obtain ⟨_, k2⟩ := way_shift (k := k) (x := xs) (by simp) (by simp only [inRA]; exact ⟨h2, trivial⟩) h3
  exact ⟨sv, b, o + k, h1, h2, k2, by simp only [shiftV, add_none]⟩
 | _ => simp [moveOn] at h
theorem putAt_to {c : Cf} (hc : c.Inv) (nd : ND c.O) {a : P} {s : S} {p : P} {v va : Value} {rt' : Rt} (h : putAt c.rt a s p = some rt') (ha : c.P1 a va) (hp : c.P1 p v) : ∃ ad, va = .pointer (some ad) ∧ Stored c ad v rt' := by
 cases a with
 | addr id j st n =>
  cases st with
  | nil =>
   simp only [putAt] at h
   obtain ⟨r, hr, hv, b, hb, rfl⟩ := ha
   have : isVirt c.rt id = false := by unfold isVirt; rw [hr]; exact hv
   rw [this] at h
   exact ⟨_, rfl, putBox_to hc nd hr hv hb h hp⟩
  | cons q st => exact putElem_to hc nd h ha hp
 | _ => simp [putAt] at h
theorem setCellAt_self {rt rt' : Rt} {id j : Nat} {x y : VC} (hx : cellAt rt id j = some x) (h : setCellAt rt id j y = some rt') : cellAt rt' id j = some y := by
 obtain ⟨r, hr, hxj⟩ := cellAt_some hx
 have := setCellAt_some hr h
 subst this
 unfold cellAt
 rw [setRt_self]
 exact List.getElem?_set_self (List.getElem?_eq_some_iff.1 hxj).1
theorem freezeAt_cell {rt rt' : Rt} {id j n : Nat} {x : VC} (hx : cellAt rt id j = some x) (h : freezeAt rt id j n = some rt') : ∃ d c, x.c = .mk d c ∧ cellAt rt' id j = some ⟨x.hv, x.iv, .mk (min d n) c⟩ := by
 unfold freezeAt at h
 rw [hx] at h
 simp only at h
 cases hxc : x.c with
 | mk d c => simp only [hxc] at h; exact ⟨d, c, rfl, setCellAt_self hx h⟩
 | any => simp only [hxc] at h; cases h
 | al => simp only [hxc] at h; cases h
 | lk => simp only [hxc] at h; cases h
theorem takeRow_cell {rt rt' : Rt} {cs : SS} {p : P} {xs : List cs.T} {d id j : Nat} {x0 : VC} (hx : cellAt rt id j = some x0) (h : takeRow rt cs p = some (xs, d, rt')) :
  ∃ x1, cellAt rt' id j = some x1 ∧ x1.hv = x0.hv ∧ ∀ d1 c1, x1.c = .mk d1 c1 → ∃ d0, x0.c = .mk d0 c1 := by
 by_cases hne : ∀ st cut n, p ≠ .ref id j st cut n
 ·obtain ⟨r, hr, hxj⟩ := cellAt_some hx
  obtain ⟨r', e1, _, e3, _⟩ := takeRow_other h hne hr hxj
  exact ⟨x0, cellAt_eq e1 e3, rfl, fun d1 c1 h => ⟨d1, h⟩⟩
 ·have : ∃ st cut n, p = .ref id j st cut n := by
   by_cases hh : ∃ st cut n, p = .ref id j st cut n
   ·exact hh
   ·exact absurd (fun st cut n e => hh ⟨st, cut, n, e⟩) hne
  obtain ⟨st, cut, n, rfl⟩ := this
  simp only [takeRow, hx] at h
  cases hrow : rowOf rt cs (.ref id j st cut n) with
  | none => rw [hrow] at h; cases h
  | some ys =>
   rw [hrow] at h
   simp only at h
   cases hxc : x0.c with
   | any => simp only [hxc] at h; cases h
   | al => simp only [hxc] at h; cases h
   | lk => simp only [hxc] at h; cases h
   | mk d0 c0 =>
    simp only [hxc] at h
    cases st with
    | nil =>
     simp only at h
     cases hs : setCellAt rt id j ⟨x0.hv, x0.iv + 1, .any⟩ with
     | none => rw [hs] at h; cases h
     | some rt2 =>
      rw [hs] at h
      simp only [Option.some.injEq, Prod.mk.injEq] at h
      obtain ⟨_, _, rfl⟩ := h
      exact ⟨_, setCellAt_self hx hs, rfl, fun d1 c1 e => by cases e⟩
    | cons q st =>
     simp only at h
     cases hs : freezeAt rt id j (q :: st).length with
     | none => rw [hs] at h; cases h
     | some rt2 =>
      rw [hs] at h
      simp only [Option.some.injEq, Prod.mk.injEq] at h
      obtain ⟨_, _, rfl⟩ := h
      obtain ⟨d2, c2, e1, e2⟩ := freezeAt_cell hx hs
      refine ⟨_, e2, rfl, fun d1 c1 e => ?_⟩
      obtain ⟨rfl, rfl⟩ := Cell.mk.inj e
      exact ⟨d0, by rw [hxc] at e1; obtain ⟨_, rfl⟩ := Cell.mk.inj e1; rfl⟩
theorem putElem_cell {rt rt' : Rt} {id j n : Nat} {q : Nat × Nat} {st : Way} {s : S} {p : P} (h : putElem rt id j (q :: st) n s p = some rt') :
  ∃ x0 d k0 x' d' y, cellAt rt id j = some x0 ∧ x0.c = .mk d k0 ∧ n = x0.iv ∧ cellAt rt' id j = some x' ∧ x'.hv = x0.hv ∧ x'.c = .mk d' ⟨k0.s, y⟩ := by
 unfold putElem at h
 cases hx0 : cellAt rt id j with
 | none => rw [hx0] at h; cases h
 | some x0 =>
  rw [hx0] at h
  simp only at h
  cases hxc : x0.c with
  | any => simp only [hxc] at h; cases h
  | al => simp only [hxc] at h; cases h
  | lk => simp only [hxc] at h; cases h
  | mk d k0 =>
   simp only [hxc] at h
   cases hg : (x0.ok (q :: st) n && Nat.ble (q :: st).length d) with
   | false => rw [hg] at h; cases h
   | true =>
    rw [hg] at h
    simp only [cond_true] at h
    simp only [Bool.and_eq_true] at hg
    have hn : n = x0.iv := Nat.eq_of_beq_eq_true hg.1
    have scal : ∀ (s : S) (y0 : s.T), (match setP k0.s k0.x (q :: st) ⟨s, y0⟩ with
      | some y => setCellAt rt id j ⟨x0.hv, x0.iv, .mk d ⟨k0.s, y⟩⟩
      | none => none) = some rt' → ∃ x0' d k0 x' d' y, some x0 = some x0' ∧ x0'.c = .mk d k0 ∧ n = x0'.iv ∧ cellAt rt' id j = some x' ∧ x'.hv = x0'.hv ∧ x'.c = .mk d' ⟨k0.s, y⟩ := by
     intro s y0 h9
     cases hset : setP k0.s k0.x (q :: st) ⟨s, y0⟩ with
     | none => rw [hset] at h9; cases h9
     | some y =>
      rw [hset] at h9
      exact ⟨x0, d, k0, _, d, y, rfl, hxc, hn, setCellAt_self hx0 h9, rfl, rfl⟩
    cases s with
    | row cs =>
     simp only at h
     cases ht : takeRow rt cs p with
     | none => rw [ht] at h; cases h
     | some yy =>
      obtain ⟨xs, dv, rt1⟩ := yy
      rw [ht] at h
      simp only at h
      obtain ⟨x1, e1, e2, e3⟩ := takeRow_cell hx0 ht
      rw [e1] at h
      simp only at h
      cases hxc1 : x1.c with
      | any => simp only [hxc1] at h; cases h
      | al => simp only [hxc1] at h; cases h
      | lk => simp only [hxc1] at h; cases h
      | mk d1 c1 =>
       obtain ⟨d0, e4⟩ := e3 d1 c1 hxc1
       rw [hxc] at e4
       obtain ⟨_, rfl⟩ := Cell.mk.inj e4
       simp only [hxc1] at h
       cases hg1 : (x1.ok (q :: st) n && Nat.ble (q :: st).length d1) with
       | false => rw [hg1] at h; cases h
       | true =>
        rw [hg1] at h
        simp only [cond_true] at h
        cases hset : setP k0.s k0.x (q :: st) ⟨.row cs, xs⟩ with
        | none => rw [hset] at h; cases h
        | some y =>
         rw [hset] at h
         simp only at h
         exact ⟨x0, d, k0, _, _, y, rfl, hxc, hn, setCellAt_self e1 h, e2, rfl⟩
    | int k =>
     simp only at h
     split at h
     ·split at h
      ·exact scal _ _ h
      ·cases h
     ·cases h
    | bool =>
     simp only at h
     split at h
     ·split at h
      ·exact scal _ _ h
      ·cases h
     ·cases h
    | str =>
     simp only at h
     split at h
     ·split at h
      ·exact scal _ _ h
      ·cases h
     ·cases h
theorem addr_again {c c' : Cf} (hc : c.Inv) (t : ∀ p v, c.P1 p v → c'.P1 p v) {id j : Nat} {q : Nat × Nat} {va : Value} {x0 x' : VC} {d d' : Nat} {k0 : CV} {y : k0.s.T}
  (hx : cellAt c.rt id j = some x0) (hxc : x0.c = .mk d k0) (hx' : cellAt c'.rt id j = some x') (hhv : x'.hv = x0.hv) (hxc' : x'.c = .mk d' ⟨k0.s, y⟩) (ha : c.P1 (.addr id j [q] x0.iv) va) : c'.P1 (.addr id j [q] x'.iv) va := by
 obtain ⟨r, hr, hxj⟩ := cellAt_some hx
 obtain ⟨r', hr', hxj'⟩ := cellAt_some hx'
 obtain ⟨i, jj⟩ := q
 obtain ⟨r2, p1, x2, rv, p2, p3, p4, p5⟩ := ha
 rw [hr] at p1
 obtain rfl := Option.some.inj p1
 rw [hxj] at p2
 obtain rfl := Option.some.inj p2
 have h5 := p5 rfl
 unfold AddrOk at h5
 simp only [hxc] at h5
 obtain ⟨b, o, g1, g2, rfl⟩ := h5
 obtain ⟨ks, kx⟩ := k0
 cases ks with
 | row cs =>
  simp only [inRA] at g1
  obtain ⟨rv2, e1, e2⟩ := (hc.root id r hr).cell j x0 hxj
  rw [p3] at e1
  obtain rfl := Option.some.inj e1
  rw [hxc] at e2
  have e2 : Rep c.w c.Z (.row cs) d kx rv _ := e2
  have e3 := e2
  simp only [Rep] at e3
  obtain ⟨A, cap, hv, _⟩ := e3
  have hcut : cutV (some (List.length kx)) rv = rv := by rw [hv]; rfl
  have hq : c.P1 (.ref id j [] (some (List.length kx)) x0.hv) rv := by
   refine ⟨r, x0, rv, hr, hxj, p3, ⟨Nat.le_refl _, by rw [hv]; trivial⟩, fun _ => ?_⟩
   unfold RefOk
   simp only [hxc]
   exact ⟨rv, cs, kx, by simp only [inR], rfl, getP_nil _ _, fun n hn => by rw [← Option.some.inj hn]; exact Nat.le_refl _, hcut.symm⟩
  obtain ⟨r3, x3, rv3, q1, q2, q3, q4, q5⟩ := t _ _ hq
  rw [hr'] at q1
  obtain rfl := Option.some.inj q1
  rw [hxj'] at q2
  obtain rfl := Option.some.inj q2
  have h6 := q5 hhv.symm
  unfold RefOk at h6
  simp only [hxc'] at h6
  obtain ⟨v0, cs3, xs3, k1, k2, k3, k4, k5⟩ := h6
  simp only [pv, Option.some.injEq] at k2
  subst k2
  rw [getP_nil] at k3
  obtain ⟨e4, e5⟩ := CV.mk.inj (Option.some.inj k3)
  obtain rfl := S.row.inj e4
  obtain rfl := eq_of_heq e5
  have hlen := k4 _ rfl
  refine ⟨r', hr', x', rv3, hxj', q3, ⟨Nat.le_refl _, trivial⟩, fun _ => ?_⟩
  unfold AddrOk
  simp only [hxc']
  refine ⟨b, o, by simp only [inRA]; exact ⟨Nat.lt_of_lt_of_le g1.1 hlen, trivial⟩, ?_, rfl⟩
  have : ∃ A' n' cap', rv3 = .slice A' n' cap' ∧ A' = A := by
   rw [hv] at k5
   cases rv3 with
   | slice A' n' cap' =>
    simp only [cutV, Value.slice.injEq] at k5
    exact ⟨A', n', cap', rfl, k5.1.symm⟩
   | _ => simp [cutV] at k5
  obtain ⟨A', n', cap', rfl, rfl⟩ := this
  rw [hv] at g2
  cases A' with
  | none => simp [pa] at g2
  | some a => simpa [pa] using g2
 | int k => simp only [inRA] at g1
 | bool => simp only [inRA] at g1
 | str => simp only [inRA] at g1
end Go.PV

namespace Go.PV
variable {Pg : Program}
theorem run_store {w : World} {a : Addr} {v u : Value} (hv : one v) (hc : w.cell? a = some u) (hf : w.frozen? a = false) {α : Type} {k : Sem α} :
  (Sem.store .plain a v k).run Pg w = k.run Pg (w.setCell a v) := by
 cases v <;> first | exact hv.elim | simp [Sem.run, hc, hf]
theorem putCells_to {a : P} {ad : Addr} : ∀ {ss : List S} {ps : List P} {vs : List Value} {k : Nat} {c : Cf} {rt' : Rt}, c.Inv → ND c.O → putCells c.rt a ss ps k = some rt' → c.P1 (atK c.rt a k) (.pointer (some ad)) →
  vs.length = ps.length → (∀ (i : Nat) p v, ps[i]? = some p → vs[i]? = some v → c.P1 p v) → ∃ w' O' Z', (storeCells ad vs k).run Pg c.w = .ok () w' ∧ To c ⟨rt', w', c.γ, O', Z'⟩ ∧ ND O'
 | [], [], [], k, c, rt', hc, nd, h, _, _, _ => by
  simp only [putCells, Option.some.injEq] at h
  subst h
  exact ⟨c.w, c.O, c.Z, by simp [storeCells, Sem.run, pure], To.refl hc, nd⟩
 | s :: ss, p :: ps, v :: vs, k, c, rt', hc, nd, h, ha, hl, hp => by
  simp only [putCells] at h
  cases hm : moveOn (atK c.rt a k) k with
  | none => rw [hm] at h; cases h
  | some q =>
   rw [hm] at h
   simp only at h
   cases hq : putAt c.rt q s p with
   | none => rw [hq] at h; cases h
   | some rt1 =>
    rw [hq] at h
    simp only at h
    have hqv := moveOn_rep hm ha
    obtain ⟨ad', e1, ⟨⟨O1, Z1, t1, nd1⟩, ⟨u, hu⟩, hf, ho⟩⟩ := putAt_to hc nd hq hqv (hp 0 p v rfl rfl)
    simp only [shiftV, Value.pointer.injEq, Option.some.injEq] at e1
    subst e1
    have hnext : PRep1 rt1 (c.w.setCell (ad.add k) v) c.γ Z1 (atK rt1 a (k + 1)) (.pointer (some ad)) := by
     show PRep1 rt1 (c.w.setCell (ad.add k) v) c.γ Z1 (anew rt1 a) (.pointer (some ad))
     cases a with
     | addr id j st n =>
      cases st with
      | nil =>
       have : atK c.rt (.addr id j [] n) k = .addr id j [] n := by unfold atK; cases k <;> rfl
       rw [this] at ha
       exact t1.stb _ _ ha
      | cons q0 st =>
       cases st with
       | cons q1 st =>
        have : atK c.rt (.addr id j (q0 :: q1 :: st) n) k = .addr id j (q0 :: q1 :: st) n := by unfold atK; cases k <;> rfl
        rw [this] at ha
        exact t1.stb _ _ ha
       | nil =>
        have hat : ∃ m, atK c.rt (.addr id j [q0] n) k = .addr id j [q0] m := by
         unfold atK
         cases k with
         | zero => exact ⟨n, rfl⟩
         | succ k =>
          simp only [anew]
          cases hx : cellAt c.rt id j with
          | none =>
           simp only [atK, anew, hx] at hm
           simp [moveOn] at hm
          | some x => exact ⟨x.iv, rfl⟩
        obtain ⟨m, hat⟩ := hat
        rw [hat] at ha hm
        simp only [moveOn, Option.some.injEq] at hm
        subst hm
        obtain ⟨q', st', e⟩ := lastAdd_ne q0 [] k
        rw [e] at hq
        simp only [putAt] at hq
        obtain ⟨x0, d, k0, x', d', y, f1, f2, f3, f4, f5, f6⟩ := putElem_cell hq
        subst f3
        have := addr_again hc t1.stb f1 f2 f4 f5 f6 ha
        simp only [anew, f4]
        exact this
     | _ => unfold atK at hm; cases k <;> simp [moveOn, anew] at hm <;> (first | (subst hm; simp [putAt] at hq) | skip)
    have hp' : ∀ (i : Nat) p v', ps[i]? = some p → vs[i]? = some v' → PRep1 rt1 (c.w.setCell (ad.add k) v) c.γ Z1 p v' := fun i p v' h1 h2 => t1.stb _ _ (hp (i + 1) p v' (by simpa using h1) (by simpa using h2))
    obtain ⟨w', O', Z', r1, r2, r3⟩ := putCells_to (c := ⟨rt1, c.w.setCell (ad.add k) v, c.γ, O1, Z1⟩) t1.inv nd1 h hnext (by simpa using hl) hp'
    refine ⟨w', O', Z', ?_, t1.trans r2, r3⟩
    show ((Sem.store .plain (ad.add k) v (Sem.pure ())).bind fun _ => storeCells ad vs (k + 1)).run Pg c.w = _
    simp only [Sem.bind]
    rw [run_store ho hu hf]
    exact r1
 | [], _ :: _, _, _, _, _, _, _, h, _, _, _ => by simp [putCells] at h
 | _ :: _, [], _, _, _, _, _, _, h, _, _, _ => by simp [putCells] at h
 | [], [], _ :: _, _, _, _, _, _, _, _, hl, _ => by simp at hl
 | _ :: _, _ :: _, [], _, _, _, _, _, _, _, hl, _ => by simp at hl
theorem rdAt_rep {c : Cf} (hc : c.Inv) {a p : P} {va : Value} (h : rdAt c.rt a = some p) (ha : c.P1 a va) : ∃ ad v, va = .pointer (some ad) ∧ c.w.cell? ad = some v ∧ c.P1 p v := by
 cases a with
 | addr id j st n =>
  simp only [rdAt] at h
  unfold rdCell at h
  cases hx : cellAt c.rt id j with
  | none => rw [hx] at h; cases h
  | some x =>
   obtain ⟨r, hr, hxj⟩ := cellAt_some hx
   rw [hx] at h
   simp only at h
   obtain ⟨rv, h1, h2⟩ := (hc.root id r hr).cell j x hxj
   obtain ⟨r2, q1, q2⟩ := ha
   rw [hr] at q1
   obtain rfl := Option.some.inj q1
   cases st with
   | nil =>
    obtain ⟨hv, b, hb, rfl⟩ := q2
    have hcell : c.w.cell? ⟨b, j, none⟩ = some rv := by
     unfold PV.rootVal at h1
     simp only [hv, hb] at h1
     exact h1
    refine ⟨_, rv, rfl, hcell, ?_⟩
    cases hxc : x.c with
    | any => simp only [hxc] at h; cases h
    | lk k0 =>
     simp only [hxc, Option.some.injEq] at h
     subst h
     rw [hxc] at h2
     exact h2.1
    | al id2 j2 st2 cut v2 =>
     simp only [hxc, Option.some.injEq] at h
     subst h
     rw [hxc] at h2
     exact h2.2
    | mk d k0 =>
     have hvirt : isVirt c.rt id = false := by unfold isVirt; rw [hr]; exact hv
     simp only [hxc, hvirt, cond_false, Option.some.injEq] at h
     subst h
     rw [hxc] at h2
     have h2 : Rep c.w c.Z k0.s d k0.x rv (fun b => c.O b = some (.cell id j)) := h2
     unfold cellP
     cases hrow : k0.s.isRow with
     | false =>
      simp only [Bool.false_and]
      have hd : k0.s.depth = 0 := by
       obtain ⟨ks, kx⟩ := k0
       cases ks <;> simp_all [S.isRow, S.depth]
      have hF : (fun b => c.O b = some (.cell id j)) = nil' := by
       obtain ⟨ks, kx⟩ := k0
       cases ks with
       | row cs => simp [S.isRow] at hrow
       | int k => exact h2.2
       | bool => exact h2.2
       | str => exact h2.2
      rw [hF] at h2
      exact Rep.deep (by omega) (by omega) h2
     | true =>
      simp only [Bool.true_and]
      cases hd : Nat.beq d 0 with
      | true =>
       simp only [Bool.not_true]
       have : d = 0 := Nat.eq_of_beq_eq_true hd
       subst this
       obtain ⟨ks, kx⟩ := k0
       cases ks with
       | row cs =>
        have := Rep.ro_nil h2
        rw [this] at h2
        exact h2
       | int k => simp [S.isRow] at hrow
       | bool => simp [S.isRow] at hrow
       | str => simp [S.isRow] at hrow
      | false =>
       simp only [Bool.not_false]
       refine ⟨r, x, rv, hr, hxj, h1, ⟨Nat.le_refl _, (Rep.slice (by first | exact h2 | assumption)).1 hrow⟩, fun _ => ?_⟩
       unfold RefOk
       simp only [hxc]
       obtain ⟨ks, kx⟩ := k0
       cases ks with
       | row cs => exact ⟨rv, cs, kx, by simp only [inR], rfl, getP_nil _ _, (fun n hn => by cases hn), (cutV_none rv).symm⟩
       | int k => simp [S.isRow] at hrow
       | bool => simp [S.isRow] at hrow
       | str => simp [S.isRow] at hrow
   | cons q st =>
    obtain ⟨x2, rv2, p2, p3, p4, p5⟩ := q2
    rw [hxj] at p2
    obtain rfl := Option.some.inj p2
    rw [h1] at p3
    obtain rfl := Option.some.inj p3
    cases hxc : x.c with
    | any => simp only [hxc] at h; cases h
    | lk k0 => simp only [hxc] at h; cases h
    | al => simp only [hxc] at h; cases h
    | mk d k0 =>
     simp only [hxc] at h
     cases hok : x.ok (q :: st) n with
     | false => rw [hok] at h; cases h
     | true =>
      rw [hok] at h
      simp only [cond_true] at h
      cases hg : getP k0.s k0.x (q :: st) with
      | none => rw [hg] at h; cases h
      | some k1 =>
       rw [hg] at h
       simp only [Option.some.injEq] at h
       subst h
       have hn : n = x.iv := Nat.eq_of_beq_eq_true hok
       have h5 := p5 hn
       unfold AddrOk at h5
       simp only [hxc] at h5
       obtain ⟨b, o, g1, g2, rfl⟩ := h5
       rw [hxc] at h2
       have h2 : Rep c.w c.Z k0.s d k0.x rv (fun b => c.O b = some (.cell id j)) := h2
       have hin := inRA_R g1 hg
       obtain ⟨k2, v', F', m1, m2, m3, m4, m5⟩ := path_read h2 hin
       rw [hg] at m1
       obtain rfl := Option.some.inj m1
       obtain ⟨b', o', m6, m7, m8⟩ := m5 (by simp)
       rw [g2] at m6
       obtain ⟨rfl, rfl⟩ := Prod.mk.inj (Option.some.inj m6)
       refine ⟨_, v', rfl, m7, ?_⟩
       unfold cellP
       cases hrow : k1.s.isRow with
       | false =>
        simp only [Bool.false_and]
        obtain ⟨ks, kx⟩ := k1
        cases ks with
        | row cs => simp [S.isRow] at hrow
        | int k => exact ⟨m3.1, rfl⟩
        | bool => exact ⟨m3.1, rfl⟩
        | str => exact ⟨m3.1, rfl⟩
       | true =>
        simp only [Bool.true_and]
        obtain ⟨ks, kx⟩ := k1
        cases ks with
        | row cs =>
         cases hd : Nat.beq (d - (q :: st).length) 0 with
         | true =>
          simp only [Bool.not_true]
          have e0 : d - (q :: st).length = 0 := Nat.eq_of_beq_eq_true hd
          rw [e0] at m3
          have := Rep.ro_nil m3
          rw [this] at m3
          exact m3
         | false =>
          simp only [Bool.not_false]
          refine ⟨r, x, rv, hr, hxj, h1, ⟨Nat.le_refl _, (Rep.slice m3).1 rfl⟩, fun _ => ?_⟩
          unfold RefOk
          simp only [hxc]
          exact ⟨v', cs, kx, hin, m2, hg, (fun n hn => by cases hn), (cutV_none v').symm⟩
        | int k => simp [S.isRow] at hrow
        | bool => simp [S.isRow] at hrow
        | str => simp [S.isRow] at hrow
 | ra cs xs i j =>
  simp only [rdAt, Option.map_eq_some_iff] at h
  obtain ⟨k0, hg, rfl⟩ := h
  obtain ⟨sv, b, o, h1, h2, h3, rfl⟩ := ha
  have hin : inR (.row cs) xs [(i, j)] := by simp only [inR]; exact ⟨h2, k0, hg, trivial⟩
  obtain ⟨k2, v', F', m1, m2, m3, m4, m5⟩ := path_read h1 hin
  obtain ⟨b', o', m6, m7, m8⟩ := m5 (by simp)
  rw [h3] at m6
  obtain ⟨rfl, rfl⟩ := Prod.mk.inj (Option.some.inj m6)
  refine ⟨_, v', rfl, m7, ?_⟩
  simp only [getP, hg] at m1
  have m1 := Option.some.inj m1
  subst m1
  have hF : F' = nil' := by funext b; exact eq_false fun hb => m4 b hb
  subst hF
  have e0 : 0 - [(i, j)].length = 0 := by simp
  rw [e0] at m3
  exact m3
 | _ => simp [rdAt] at h
theorem rdCells_rep {c : Cf} (hc : c.Inv) {a : P} {ad : Addr} (ha : c.P1 a (.pointer (some ad))) : ∀ {n k : Nat} {ps : List P} {acc : Array Value}, rdCells c.rt a n k = some ps →
  ∃ vs : List Value, (loadCellsFrom ad k n acc).run Pg c.w = .ok (acc ++ vs.toArray) c.w ∧ vs.length = ps.length ∧ ps.length = n ∧ ∀ (i : Nat) p v, ps[i]? = some p → vs[i]? = some v → c.P1 p v
 | 0, k, ps, acc, h => by
  simp only [rdCells, Option.some.injEq] at h
  subst h
  exact ⟨[], by simp [loadCellsFrom, Sem.run, pure], rfl, rfl, fun i p v h => by simp at h⟩
 | n + 1, k, ps, acc, h => by
  simp only [rdCells] at h
  cases hm : moveOn a k with
  | none => rw [hm] at h; cases h
  | some q =>
   rw [hm] at h
   simp only at h
   cases hq : rdAt c.rt q with
   | none => rw [hq] at h; cases h
   | some x =>
    rw [hq] at h
    simp only at h
    cases hr : rdCells c.rt a n (k + 1) with
    | none => rw [hr] at h; cases h
    | some l =>
     rw [hr] at h
     simp only [Option.some.injEq] at h
     subst h
     obtain ⟨ad', v, e1, e2, e3⟩ := rdAt_rep hc hq (moveOn_rep hm ha)
     simp only [shiftV, Value.pointer.injEq, Option.some.injEq] at e1
     subst e1
     obtain ⟨vs, f1, f2, f3, f4⟩ := rdCells_rep hc ha (acc := acc.push v) hr
     refine ⟨v :: vs, ?_, by simp [f2], by simp [f3], fun i p u h1 h2 => ?_⟩
     ·show ((Sem.load .plain (ad.add k) Sem.pure).bind fun v => loadCellsFrom ad (k + 1) n (acc.push v)).run Pg c.w = _
      simp only [Sem.bind, Sem.run, e2]
      rw [f1]
      simp
     ·cases i with
      | zero =>
       simp only [List.getElem?_cons_zero, Option.some.injEq] at h1 h2
       subst h1 h2
       exact e3
      | succ i => exact f4 i p u (by simpa using h1) (by simpa using h2)
end Go.PV

namespace Go.PV
inductive HS where
 | keep
 | own (d : Nat) (cs : SS)
structure Hint where
 slots : List (Nat × HS)
 roots : List (Nat × List Nat)
structure Cx where
 nt : Nat
 ty : Nat → TyI
 eqs : Nat → Bool
 sig : Nat → Sig
 call : (f : Nat) → TupT (sig f).ins → Option (TupT (sig f).outs)
 hint : Nat → Hint
 join : Nat → Option Hint
 rounds : Nat
 nv : List Nat
 nb : List Nat
def constP : Value → P
 | .int k n => .cv ⟨.int k, n⟩
 | .bool b => .cv ⟨.bool, b⟩
 | .string s => .cv ⟨.str, s⟩
 | .slice none 0 0 => .e
 | _ => .dead
def constA : Value → P
 | .agg cs => .agg (cs.toList.map constP)
 | v => constP v
def evP (tm : Nat → P) : Operand → P
 | .tmp t => tm t
 | .const v => constA v
 | _ => .dead
def P.ids : P → List Nat
 | .ref id .. => [id]
 | .addr id .. => [id]
 | .agg l | .tup l => l.flatMap fun | .ref id .. => [id] | .addr id .. => [id] | _ => []
 | _ => []
def memN (n : Nat) : List Nat → Bool
 | [] => false
 | m :: l => bif Nat.beq n m then true else memN n l
def restr (rt : Rt) (l : List Nat) : Rt := fun id => bif memN id l then rt id else none
def merge (l : List Nat) (new old : Rt) : Rt := fun id => bif memN id l then new id else old id
def setAts (ps : List P) : List (Nat × List P) → List P
 | [] => ps
 | (off, l) :: rest => setAts (l.zipIdx.foldl (fun qs (p, k) => qs.set (off + k) p) ps) rest
def elems (rt : Rt) (cs : SS) : List (List P) → Nat → Option (List cs.T × Nat × Rt)
 | [], m => some ([], m, rt)
 | ps :: pss, m => match takeCells rt cs.list ps m with
  | some (l, m', rt') => match cs.of l with
   | some x => match elems rt' cs pss m' with
    | some (xs, r) => some (x :: xs, r)
    | none => none
   | none => none
  | none => none
def scalarEq : CV → CV → Option Bool
 | ⟨.int k, x⟩, ⟨.int k', y⟩ => bif decide (k = k') then some ((x : Int) == (y : Int)) else none
 | ⟨.bool, x⟩, ⟨.bool, y⟩ => some ((x : Bool) == (y : Bool))
 | ⟨.str, x⟩, ⟨.str, y⟩ => some (ByteArray.toList x == ByteArray.toList y)
 | _, _ => none
def aggEq : List P → List P → Option Bool
 | [], [] => some true
 | [.cv a], [.cv b] => scalarEq a b
 | .cv a :: l, .cv b :: m => match scalarEq a b with
  | some x => match aggEq l m with
   | some y => some (x && y)
   | none => none
  | none => none
 | _, _ => none
def partOk (n : Nat) : P → Bool
 | .agg l => Nat.beq l.length n
 | .cv _ | .e | .ref .. | .addr .. | .ra .. => Nat.beq n 1
 | _ => false
def idxOk (n : Nat) : List Nat → Bool
 | [] => true
 | i :: l => Nat.blt i n && !(memN i l) && idxOk n l
def aggShape : List S → List P → Bool
 | [], [] => true
 | s :: ss, .cv c :: l => c.s.beq s && aggShape ss l
 | _, _ => false
def buildOk (offs : List Nat) (n : Nat) (ev : Operand → P) (q : Nat × Operand) : Bool := match offs[q.1]? with
 | some off => partOk (offs.getD (q.1 + 1) n - off) (ev q.2)
 | none => false
def litCells (cs : SS) (ev : Operand → P) (parts : List (Nat × Operand)) (i : Nat) : List P := match parts.find? (fun x => Nat.beq x.1 i) with
 | some q => (ev q.2).cells
 | none => cs.list.map zeroP
def appSrc (rt : Rt) (cs : SS) (d : Nat) (q : P) : Option (List cs.T × Nat × Rt) := match q with
 | .cv ⟨.str, s⟩ => match (CV.mk (.row (.one (.int .u8))) (strNums s)).as (.row cs) with
  | some ys => some (ys, d, rt)
  | none => none
 | q => bif cs.flat then (match rowOf rt cs q with
   | some ys => some (ys, d, rt)
   | none => none)
  else match takeRow rt cs q with
   | some (ys, d', rt2) => some (ys, max 1 (min d (lift (.row cs) d')), rt2)
   | none => none
def opTyOk (ty : TyI) (s : S) : Bool := match s with
 | .bool => match ty with
  | .cell .bool _ => true
  | _ => false
 | _ => true
inductive It where
 | no
 | look (id j : Nat) (st : Way)
 | own (id j : Nat) (st : Way) (pc : PC)
 | box (id n : Nat)
 | bown (id j : Nat) (pc : PC)
 | blk (id j : Nat) (pc : PC)
def It.es : It → List (Nat × Nat)
 | .own id j _ _ => [(id, j)]
 | .box id n => [(id, n)]
 | .bown id j _ => [(id, j)]
 | _ => []
def It.bs : It → List (Nat × Nat)
 | .look id j _ => [(id, j)]
 | .blk id j _ => [(id, j)]
 | _ => []
def lookAt : P → It
 | .ref id j st _ _ => .look id j st
 | _ => .no
def gatherCell (rt : Rt) (pc : PC) (q : P) : Option (CV × It) := match pc.s with
 | .row cs => match rowOf rt cs q with
  | none => none
  | some xs => bif Nat.beq pc.d 0 then some (⟨.row cs, xs⟩, lookAt q)
   else match q with
    | .e => bif pc.kept then none else some (⟨.row cs, xs⟩, .no)
    | .ref id j st cut _ => match cut with
     | none => match cellAt rt id j with
      | some x => match x.c with
       | .mk d _ => bif Nat.ble (st.length + pc.d) d && (pc.kept || st.isEmpty) then some (⟨.row cs, xs⟩, .own id j st pc) else none
       | _ => none
      | none => none
     | some _ => none
    | _ => none
 | s => match q with
  | .cv c => match c.as s with
   | some x => some (⟨s, x⟩, .no)
   | none => none
  | _ => none
def gatherCells (rt : Rt) : List PC → List P → Option (List CV × List It)
 | [], [] => some ([], [])
 | pc :: pcs, q :: qs => match gatherCell rt pc q with
  | some (c, i) => match gatherCells rt pcs qs with
   | some (l, is) => some (c :: l, i :: is)
   | none => none
  | none => none
 | _, _ => none
def boxCell (id : Nat) (pc : PC) (j : Nat) : Cell → Option (CV × It)
 | .lk c => bif pc.kept then none else match c.as pc.s with
  | some y => some (⟨pc.s, y⟩, .blk id j pc)
  | none => none
 | .mk d c => bif Nat.ble pc.d d || !pc.s.isRow || !pc.kept then (match c.as pc.s with
  | some y => some (⟨pc.s, y⟩, bif pc.kept then .bown id j pc else .blk id j pc)
  | none => none) else none
 | _ => none
def boxVals (rt : Rt) (id : Nat) : List PC → Nat → Option (List CV × List It)
 | [], _ => some ([], [])
 | pc :: pcs, j => match cellAt rt id j with
  | some x => match boxCell id pc j x.c with
   | some (c, i) => match boxVals rt id pcs (j + 1) with
    | some (l, is) => some (c :: l, i :: is)
    | none => none
   | none => none
  | none => none
def P.isAgg : P → Bool
 | .agg _ => true
 | _ => false
def gather (rt : Rt) : List Par → List P → Option (List CV × List It)
 | [], [] => some ([], [])
 | .val a pcs :: pars, p :: ps => bif p.isAgg.xor a then none else match gatherCells rt pcs p.cells with
  | some (c, i) => match gather rt pars ps with
   | some (l, is) => some (c ++ l, i ++ is)
   | none => none
  | none => none
 | .ptr pcs :: pars, p :: ps => match p with
  | .addr id j st _ => match st with
   | [] => bif !(Nat.beq j 0) then none else match rt id with
    | some r => bif r.virt || !(Nat.beq r.cells.length pcs.length) then none else match boxVals rt id pcs 0 with
     | some (c, i) => match gather rt pars ps with
      | some (l, is) => some (c ++ l, .box id pcs.length :: (i ++ is))
      | none => none
     | none => none
    | none => none
   | _ => none
  | _ => none
 | _, _ => none
def memNN (a : Nat × Nat) : List (Nat × Nat) → Bool
 | [] => false
 | b :: l => bif Nat.beq a.1 b.1 && Nat.beq a.2 b.2 then true else memNN a l
def apartOk : List (Nat × Nat) → List (Nat × Nat) → Bool
 | [], _ => true
 | a :: l, bs => !memNN a l && !memNN a bs && apartOk l bs
def freezeIts (rt : Rt) : List It → Option Rt
 | [] => some rt
 | it :: l => match it with
  | .look id j st => match freezeAt rt id j st.length with
   | some rt' => freezeIts rt' l
   | none => none
  | .blk id j _ => match cellAt rt id j with
   | some x => match x.c with
    | .mk _ _ => match freezeAt rt id j 0 with
     | some rt' => freezeIts rt' l
     | none => none
    | _ => freezeIts rt l
   | none => none
  | _ => freezeIts rt l
def frozenIt (rt : Rt) : It → Bool
 | .look id j st => match cellAt rt id j with
  | some x => (match x.c with | .mk d _ => Nat.ble d st.length | _ => false)
  | none => false
 | .blk id j _ => match cellAt rt id j with
  | some x => (match x.c with | .mk d _ => Nat.ble d 0 | .lk _ => true | _ => false)
  | none => false
 | _ => true
inductive Ent where
 | val (pc : PC)
 | box (n : Nat)
 | cell (pc : PC)
def ents : List Par → List Ent
 | [] => []
 | .val _ l :: ps => l.map .val ++ ents ps
 | .ptr l :: ps => .box l.length :: (l.map .cell ++ ents ps)
def Ent.back : Ent → Bool
 | .val pc => pc.kept && !(Nat.beq pc.d 0)
 | .cell pc => pc.kept
 | .box _ => false
def fill : List Ent → List CV → Option (List (Option CV))
 | [], [] => some []
 | [], _ :: _ => none
 | e :: es, cs => bif e.back then (match cs with
   | c :: cs => match fill es cs with
    | some l => some (some c :: l)
    | none => none
   | [] => none)
  else match fill es cs with
   | some l => some (none :: l)
   | none => none
def It.at : It → Option (Nat × Nat)
 | .own id j _ _ => some (id, j)
 | .bown id j _ => some (id, j)
 | _ => none
def newCell (it : It) (x : VC) (y : Option CV) : Option VC := match it with
 | .own _ _ st pc => match x.c with
  | .mk d c => match y with
   | some y => bif pc.kept then (match setP c.s c.x st y with
    | some z => match st with
     | [] => some ⟨x.hv, x.iv + 1, .mk pc.d2 ⟨c.s, z⟩⟩
     | _ => bif Nat.beq d (st.length + pc.d2) || (Nat.ble pc.s.depth pc.d2 && Nat.ble (st.length + pc.s.depth) d) then some ⟨x.hv, x.iv + 1, .mk d ⟨c.s, z⟩⟩ else none
    | none => none) else none
   | none => bif pc.kept then none else some ⟨x.hv + 1, x.iv + 1, .any⟩
  | _ => none
 | .bown _ _ pc => match y with
  | some y => match y.as pc.s with
   | some y => some ⟨x.hv + 1, x.iv + 1, .mk (bif pc.s.isRow then pc.d2 else full) ⟨pc.s, y⟩⟩
   | none => none
  | none => none
 | _ => none
def backOne (rt : Rt) (it : It) (y : Option CV) : Option Rt := match it.at with
 | some (id, j) => match cellAt rt id j with
  | some x => match newCell it x y with
   | some x' => setCellAt rt id j x'
   | none => none
  | none => none
 | none => match y with
  | none => some rt
  | some _ => none
def backAll (rt : Rt) : List It → List (Option CV) → Option Rt
 | [], [] => some rt
 | it :: its, y :: ys => match backOne rt it y with
  | some rt' => backAll rt' its ys
  | none => none
 | _, _ => none
def resCells (rt : Rt) (t : Nat) : List (S × Nat) → Nat → List CV → Option (List P × Nat × Rt × List CV)
 | [], i, cs => some ([], i, rt, cs)
 | (s, d) :: l, i, c :: cs => match s.isRow && !(Nat.beq d 0) with
  | true => match newRoot rt (fresh t i) ⟨true, [⟨0, 0, .mk d c⟩]⟩ with
   | some rt' => match resCells rt' t l (i + 1) cs with
    | some (ps, r) => some (.ref (fresh t i) 0 [] none 0 :: ps, r)
    | none => none
   | none => none
  | false => match resCells rt t l (i + 1) cs with
   | some (ps, r) => some (.cv c :: ps, r)
   | none => none
 | _, _, _ => none
def boxOf : List (S × Nat) → List CV → Option (List VC × List CV)
 | [], cs => some ([], cs)
 | (_, d) :: l, c :: cs => match boxOf l cs with
  | some (vs, r) => some (⟨0, 0, .mk d c⟩ :: vs, r)
  | none => none
 | _, _ => none
def resAll (rt : Rt) (t : Nat) : List (RK × List (S × Nat)) → Nat → List CV → Option (List P × Rt × List CV)
 | [], _, cs => some ([], rt, cs)
 | (k, l) :: rs, i, cs => match k with
  | .ptr => match boxOf l cs with
   | some (vs, cs') => match newRoot rt (fresh t i) ⟨false, vs⟩ with
    | some rt' => match resAll rt' t rs (i + l.length) cs' with
     | some (qs, r) => some (.addr (fresh t i) 0 [] 0 :: qs, r)
     | none => none
    | none => none
   | none => none
  | k => match resCells rt t l i cs with
   | some (ps, i', rt', cs') => match resAll rt' t rs i' cs' with
    | some (qs, r) => some ((match k, ps with | .agg, ps => .agg ps | _, [p] => p | _, _ => .dead) :: qs, r)
    | none => none
   | none => none
def pack : List P → P
 | [p] => p
 | ps => .tup ps
def goodAddr (rt : Rt) : P → Bool
 | .addr id j st v => match st with
  | [] => true
  | st => match cellAt rt id j with
   | some x => x.ok st v && (match x.c with | .mk _ _ => true | _ => false)
   | none => false
 | .ra .. => true
 | _ => false
section
variable {R : Type} (cx : Cx)
def prepK (f : Nat) (ps : List P) (rt : Rt) : Option Rt := bif (cx.sig f).holds then (match gather rt (cx.sig f).ps ps with
  | some (_, its) => freezeIts rt its
  | none => none)
 else some rt
def callK (f : Nat) (ps : List P) (dst : Option Nat) (rt : Rt) (K : P → Option Rt → Option R) : Option R :=
 match prepK cx f ps rt with
 | none => none
 | some rt0 => match gather rt0 (cx.sig f).ps ps with
  | none => none
  | some (cs, its) => bif !(apartOk (its.flatMap It.es) (its.flatMap It.bs)) || ((cx.sig f).holds && !(its.all (frozenIt rt0))) then none else match tupOf (cx.sig f).ins cs with
   | none => none
   | some args => (cx.call f args).bind fun out =>
    match fill (ents (cx.sig f).ps) ((ofTup (cx.sig f).outs out).drop (cx.sig f).res.length) with
    | none => none
    | some ys => match backAll rt0 its ys with
     | none => none
     | some rt1 => match resAll rt1 (dst.getD 0) (cx.sig f).rs 0 ((ofTup (cx.sig f).outs out).take (cx.sig f).res.length) with
      | none => none
      | some (rs, rt2, rest) => bif rest.isEmpty then K (pack rs) (some rt2) else none
def appendK (t : Nat) (dst : Nat) (p q : P) (rt : Rt) (K : P → Option Rt → Option R) : Option R :=
 match cx.ty t with
 | .cell (.row cs) eb => match takeRow rt cs p with
  | none => none
  | some (xs, d, rt1) => bif Nat.beq d 0 then none else match appSrc rt1 cs d q with
   | none => none
   | some (ys, d2, rt2) => bif decide ((xs.length + ys.length) * eb ≤ 140737488355328) then
     (match newRoot rt2 (fresh dst 0) ⟨true, [⟨0, 0, .mk d2 ⟨.row cs, xs ++ ys⟩⟩]⟩ with
     | some rt3 => K (.ref (fresh dst 0) 0 [] none 0) (some rt3)
     | none => none) else none
 | _ => none
def intOr (d : Int) : Option P → Option Int
 | none => some d
 | some (.cv ⟨.int _, n⟩) => some n
 | _ => none
def cutRow (cs : SS) (xs : List cs.T) (p : P) (lo : Option P) (l h : Int) (K : P → Option Rt → Option R) : Option R := match p with
 | .cv _ => K (.cv ⟨.row cs, List.drop l.toNat (List.take (α := cs.T) h.toNat xs)⟩) none
 | .ref id j st cut v => match cut with
  | none => match lo with
   | none => K (.ref id j st (some h.toNat) v) none
   | some _ => none
  | some _ => none
 | _ => none
def sliceK (ti : TyI) (rt : Rt) (p : P) (lo hi : Option P) (K : P → Option Rt → Option R) : Option R := match intOr 0 lo with
 | none => none
 | some l => match ti with
  | .cell .str _ => match p with
   | .cv ⟨.str, s⟩ => match intOr (ByteArray.size s : Int) hi with
    | none => none
    | some h => bif decide (0 ≤ l) && decide (l ≤ h) && decide (h ≤ (ByteArray.size s : Int)) then K (.cv ⟨.str, ByteArray.extract s l.toNat h.toNat⟩) none else none
   | _ => none
  | .cell (.row cs) _ => match rowOf rt cs p with
   | some xs => match intOr (List.length (α := cs.T) xs : Int) hi with
    | none => none
    | some h => bif decide (0 ≤ l) && decide (l ≤ h) && decide (h ≤ (List.length (α := cs.T) xs : Int)) then cutRow cs xs p lo l h K else none
   | none => none
  | _ => none
def indexK (ti : TyI) (rt : Rt) (p i : P) (K : P → Option Rt → Option R) : Option R := match i with
 | .cv ⟨.int _, n⟩ => match ti with
  | .cell (.row cs) _ => match rowOf rt cs p with
   | some xs => bif decide (0 ≤ (n : Int)) && decide ((n : Int) < (List.length (α := cs.T) xs : Int)) then (match p with
    | .cv _ => K (.ra cs xs (Int.toNat n) 0) none
    | .ref id j st _ _ => match cellAt rt id j with
     | some x => K (.addr id j (st ++ [(Int.toNat n, 0)]) x.iv) none
     | none => none
    | _ => none) else none
   | none => none
  | _ => none
 | _ => none
def lenK (ti : TyI) (rt : Rt) (p : P) (K : P → Option Rt → Option R) : Option R := match ti with
 | .cell .str _ => match p with
  | .cv ⟨.str, s⟩ => K (.cv ⟨.int .i64, (ByteArray.size s : Int)⟩) none
  | _ => none
 | .cell (.row cs') _ => match rowOf rt cs' p with
  | some xs => K (.cv ⟨.int .i64, (List.length (α := cs'.T) xs : Int)⟩) none
  | none => none
 | _ => none
def locK (o : Oper) (ev : Operand → P) (rt : Rt) (K : P → Option Rt → Option R) : Option R :=
 match o.op with
 | .move x | .assign x => K (ev x) none
 | .pick c a b => match ev c with
  | .cv ⟨.bool, x⟩ => bif x then K (ev a) none else K (ev b) none
  | _ => none
 | .nilCheck x => match ev x with
  | .addr id j st v => match st with
   | [] => K (.addr id j [] v) none
   | _ => none
  | _ => none
 | .binOp op t x y _ => match ev x, ev y with
  | .cv a, .cv b => bif !(opTyOk (cx.ty t) a.s) then none else match binop op a b with
   | some (ok, c) => bif ok then K (.cv c) none else none
   | none => none
  | .agg l, .agg m => bif !(cx.eqs t && aggShape (cx.ty t).cells l) then none else match op with
   | .eql => match aggEq l m with
    | some b => K (.cv ⟨.bool, b⟩) none
    | none => none
   | .neq => match aggEq l m with
    | some b => K (.cv ⟨.bool, !b⟩) none
    | none => none
   | _ => none
  | _, _ => none
 | .unOp op _ x => match op, ev x with
  | .not, .cv ⟨.bool, b⟩ => K (.cv ⟨.bool, !b⟩) none
  | .neg, .cv ⟨.int k, n⟩ => K (.cv ⟨.int k, k.wrap (0 - (n : Int))⟩) none
  | .xor, .cv ⟨.int k, n⟩ => K (.cv ⟨.int k, k.wrap ((BitVec.ofInt k.bits (if k.signed then -1 else k.max) ^^^ BitVec.ofInt k.bits n).toNat : Int)⟩) none
  | _, _ => none
 | .convert src dst x => match cx.ty dst, ev x with
  | .cell (.int k) _, .cv ⟨.int _, n⟩ => match cx.ty src with
   | .cell _ _ => K (.cv ⟨.int k, k.wrap n⟩) none
   | _ => none
  | .cell .str _, .cv ⟨.str, s⟩ => match cx.ty src with
   | .cell .str _ => K (.cv ⟨.str, s⟩) none
   | _ => none
  | .cell .str _, p => match cx.ty src with
   | .cell (.row (.one (.int .u8))) _ => match rowOf rt (.one (.int .u8)) p with
    | some xs => K (.cv ⟨.str, numsStr xs⟩) none
    | none => none
   | _ => none
  | .cell (.row (.one (.int .u8))) _, .cv ⟨.str, s⟩ => match cx.ty src with
   | .cell .str _ => match newRoot rt (fresh (o.dst.getD 0) 0) ⟨true, [⟨0, 0, .mk full ⟨.row (.one (.int .u8)), strNums s⟩⟩]⟩ with
    | some rt' => K (.ref (fresh (o.dst.getD 0) 0) 0 [] none 0) (some rt')
    | none => none
   | _ => none
  | _, _ => none
 | .alloc t => bif (cx.ty t).cells.isEmpty then none else match newRoot rt (fresh (o.dst.getD 0) 0) ⟨false, zeroCells (cx.ty t).cells⟩ with
  | some rt' => K (.addr (fresh (o.dst.getD 0) 0) 0 [] 0) (some rt')
  | none => none
 | .box t x => bif (cx.ty t).cells.isEmpty then none else match newRoot rt (fresh (o.dst.getD 0) 0) ⟨false, zeroCells (cx.ty t).cells⟩ with
  | some rt' => match putCells rt' (.addr (fresh (o.dst.getD 0) 0) 0 [] 0) (cx.ty t).cells (ev x).cells 0 with
   | some rt'' => K (.addr (fresh (o.dst.getD 0) 0) 0 [] 0) (some rt'')
   | none => none
  | none => none
 | .load t a => match cx.ty t with
  | .cell _ _ => match rdAt rt (ev a) with
   | some p => K p none
   | none => none
  | .strct _ l => match rdCells rt (ev a) l.length 0 with
   | some ps => K (.agg ps) none
   | none => none
  | .no => none
 | .store t a x => bif (cx.ty t).cells.isEmpty then none else match putCells rt (ev a) (cx.ty t).cells (ev x).cells 0 with
  | some rt' => K .dead (some rt')
  | none => none
 | .fieldAddr t x f => bif !(goodAddr rt (ev x)) then none else match cx.ty t with
  | .strct offs _ => match offs[f]? with
   | some off => match moveOn (ev x) off with
    | some p => K p none
    | none => none
   | none => none
  | _ => none
 | .field t x f => match cx.ty t, ev x with
  | .strct offs l, .agg ps => match offs[f]? with
   | some off => bif Nat.beq (offs.getD (f + 1) l.length) (off + 1) then (match ps[off]? with
    | some p => K p none
    | none => none) else none
   | none => none
  | _, _ => none
 | .indexAddr t x i => indexK (cx.ty t) rt (ev x) (ev i) K
 | .index t x i => match ev x, ev i with
  | .cv ⟨.str, s⟩, .cv ⟨.int _, n⟩ => bif (match cx.ty t with | .cell .str _ => true | _ => false) && decide (0 ≤ (n : Int)) && decide ((n : Int) < (ByteArray.size s : Int)) then K (.cv ⟨.int .u8, ((ByteArray.get! s (Int.toNat n)).toNat : Int)⟩) none else none
  | _, _ => none
 | .slice t x lo hi mx => match mx with
  | none => sliceK (cx.ty t) rt (ev x) (lo.map ev) (hi.map ev) K
  | some _ => none
 | .extract x i => match ev x with
  | .tup l => match l[i]? with
   | some p => K p none
   | none => none
  | _ => none
 | .build t parts => match cx.ty t with
  | .strct offs l => bif parts.toList.all (buildOk offs l.length ev) then K (.agg (setAts (l.map zeroP) (parts.toList.map fun q => (offs.getD q.1 0, (ev q.2).cells)))) none else none
  | _ => none
 | .buildSlice t n parts => match cx.ty t with
  | .cell (.row cs) _ => bif !(idxOk n (parts.toList.map (·.1)) && Nat.ble (n * cs.size) 16777216) then none else match elems rt cs ((List.range n).map (litCells cs ev parts.toList)) (full - 1) with
   | some (xs, m, rt') => match newRoot rt' (fresh (o.dst.getD 0) 0) ⟨true, [⟨0, 0, .mk (m + 1) ⟨.row cs, xs⟩⟩]⟩ with
    | some rt'' => K (.ref (fresh (o.dst.getD 0) 0) 0 [] none 0) (some rt'')
    | none => none
   | none => none
  | _ => none
 | .makeSlice t l c => match cx.ty t, ev l, ev c with
  | .cell (.row cs) eb, .cv ⟨.int _, n⟩, .cv ⟨.int _, m⟩ => bif decide (0 ≤ (n : Int)) && decide ((n : Int) ≤ (m : Int)) && decide ((m : Int) * eb ≤ 140737488355328) then
    (match newRoot rt (fresh (o.dst.getD 0) 0) ⟨true, [⟨0, 0, .mk full ⟨.row cs, List.replicate (Int.toNat n) cs.d⟩⟩]⟩ with
    | some rt' => K (.ref (fresh (o.dst.getD 0) 0) 0 [] none 0) (some rt')
    | none => none) else none
  | _, _, _ => none
 | .call c => match c.callee with
  | .value (.func f) => callK cx f (c.args.toList.map ev) o.dst rt K
  | .builtin .len => match c.args.toList, c.argTypes.toList with
   | [x], [t] => lenK (cx.ty t) rt (ev x) K
   | _, _ => none
  | .builtin .append => match c.args.toList, c.argTypes.toList with
   | [x, y], [t, t1] => match cx.ty t1 with
    | .cell s _ => bif s.isRow || s.beq .str then appendK cx t (o.dst.getD 0) (ev x) (ev y) rt K else none
    | _ => none
   | _, _ => none
  | .builtin .min => match c.args.toList.map ev with
   | [.cv ⟨.int k, x⟩, .cv ⟨.int _, y⟩] => K (.cv ⟨.int k, bif decide ((y : Int) < (x : Int)) then y else x⟩) none
   | _ => none
  | .builtin .max => match c.args.toList.map ev with
   | [.cv ⟨.int k, x⟩, .cv ⟨.int _, y⟩] => K (.cv ⟨.int k, bif decide ((y : Int) > (x : Int)) then y else x⟩) none
   | _ => none
  | _ => none
 | _ => none
def freshs (o : Oper) : List Nat := match o.dst with
 | none => []
 | some t => match o.op with
  | .call c => match c.callee with
   | .value (.func f) => (List.range (cx.sig f).res.length).map (fresh t)
   | _ => [fresh t 0]
  | _ => [fresh t 0]
def isPure : Op → Bool
 | .move _ | .assign _ | .pick .. | .nilCheck _ | .binOp .. | .unOp .. | .field .. | .extract .. | .build .. | .index .. => true
 | _ => false
def pureAt (o : Oper) (s : St) : Bool := isPure o.op || (match o.op with
 | .fieldAddr _ x _ => match evP s.tm x with
  | .addr _ _ st _ => st.isEmpty
  | .ra .. => true
  | _ => false
 | _ => false)
def touch (o : Oper) (s : St) : List Nat := bif pureAt o s then [] else (o.op.operands.toList.flatMap fun x => (evP s.tm x).ids ++ (resP s.rt (evP s.tm x)).ids) ++ freshs cx o
def evR (o : Oper) (s : St) (x : Operand) : P := bif pureAt o s then evP s.tm x else resP s.rt (evP s.tm x)
def isMake : Op → Bool
 | .alloc _ | .box .. | .makeSlice .. | .buildSlice .. | .convert .. => true
 | .call c => match c.callee with
  | .builtin .append => true
  | _ => false
 | _ => false
def dstOk (o : Oper) : Bool := match o.dst with
 | some t => Nat.blt t cx.nt
 | none => !(isMake o.op) && (match o.op with
  | .call c => (match c.callee with
   | .value (.func f) => (cx.sig f).res.isEmpty
   | _ => true)
  | _ => true)
def rtAfter (l : List Nat) (r : Option Rt) (rt : Rt) : Rt := match r with
 | none => rt
 | some rt' => merge l rt' rt
def stepK (o : Oper) (s : St) (K : St → Option R) : Option R := bif !(dstOk cx o) then none else
 locK cx o (evR o s) (restr s.rt (touch cx o s)) fun p r => K ⟨updO s.tm o.dst p, rtAfter (touch cx o s) r s.rt⟩
def guardK (ops : List Oper) (o : Oper) (s : St) (K1 K0 : St → Option R) : Option R := match o.guard with
 | none => K1 s
 | some (j, want) => match (ops[j]?).bind (·.dst) with
  | none => none
  | some t => match s.tm t with
   | .cv ⟨.bool, b⟩ => match want with
    | true => bif b then K1 ⟨upd s.tm t (.cv ⟨.bool, true⟩), s.rt⟩ else K0 ⟨upd s.tm t (.cv ⟨.bool, false⟩), s.rt⟩
    | false => bif b then K0 ⟨upd s.tm t (.cv ⟨.bool, true⟩), s.rt⟩ else K1 ⟨upd s.tm t (.cv ⟨.bool, false⟩), s.rt⟩
   | .und => K0 s
   | _ => none
def skip (o : Oper) (s : St) : St := ⟨updO s.tm o.dst .und, s.rt⟩
def opsK (all : List Oper) : List Oper → St → (St → Option R) → Option R
 | [], s, K => K s
 | o :: l, s, K => guardK all o s (fun s => stepK cx o s fun s => opsK all l s K) (fun s => bif !(dstOk cx o) then none else opsK all l (skip o s) K)
end
end Go.PV

namespace Go.PV
variable {Pg : Program}
theorem run_bind {α β : Type} (x : Sem α) (f : α → Sem β) (w : World) : (x >>= f).run Pg w = match x.run Pg w with
  | .ok a w' => (f a).run Pg w'
  | .halt h w' => .halt h w' := by
 show (x.bind f).run Pg w = _
 induction x generalizing w with
 | pure a => rfl
 | load m a k ih =>
  simp only [Sem.bind, Sem.run]
  cases w.cell? a with
  | some v => exact ih v w
  | none =>
   simp only
   cases w.farLoad Pg a (m == .atomic) with
   | ok r => exact ih r.1 w
   | error h => rfl
 | store m a v k ih =>
  cases v <;> simp only [Sem.bind, Sem.run] <;> (split <;> (try split) <;> first | exact ih _ | simp_all)
 | new o k ih => simp only [Sem.bind, Sem.run]; exact ih _ _
 | shape r k ih => simp only [Sem.bind, Sem.run]; exact ih _ _
 | freeze a n k ih => simp only [Sem.bind, Sem.run]; exact ih _
 | frozen a k ih => simp only [Sem.bind, Sem.run]; exact ih _ _
 | getObj r k ih => simp only [Sem.bind, Sem.run]; split <;> first | exact ih _ _ | simp_all
 | setObj r o k ih => simp only [Sem.bind, Sem.run]; split <;> first | exact ih _ | simp_all
 | choose q k ih => simp only [Sem.bind, Sem.run]; split <;> exact ih _ _
 | sys c k ih => simp only [Sem.bind, Sem.run]; exact ih _ _
 | program k ih => simp only [Sem.bind, Sem.run]; exact ih _ _
 | mark m k ih => simp only [Sem.bind, Sem.run]; exact ih _
 | halt h => rfl
theorem run_pure {α : Type} (a : α) (w : World) : (pure a : Sem α).run Pg w = .ok a w := rfl
def zeroV : S → Value
 | .int k => .int k 0
 | .bool => .bool false
 | .str => .string ByteArray.empty
 | .row _ => .slice none 0 0
def isZero : S → Value → Bool
 | .int k, .int k' n => decide (k = k') && decide (n = 0)
 | .bool, .bool b => !b
 | .str, .string s => decide (s.data.size = 0)
 | .row _, .slice none n c => decide (n = 0) && decide (c = 0)
 | _, _ => false
theorem isZero_eq : ∀ {s : S} {v : Value}, isZero s v = true → v = zeroV s
 | .int k, .int k' n, h => by simp only [isZero, Bool.and_eq_true, decide_eq_true_eq] at h; obtain ⟨rfl, rfl⟩ := h; rfl
 | .bool, .bool b, h => by simp only [isZero, Bool.not_eq_true'] at h; subst h; rfl
 | .str, .string s, h => by
  simp only [isZero, decide_eq_true_eq] at h
  obtain ⟨d⟩ := s
  have : d = #[] := Array.eq_empty_of_size_eq_zero h
  subst this
  rfl
 | .row _, .slice none n c, h => by simp only [isZero, Bool.and_eq_true, decide_eq_true_eq] at h; obtain ⟨rfl, rfl⟩ := h; rfl
 | .row _, .slice (some _) _ _, h => by simp [isZero] at h
def zerosOk : List S → List Value → Bool
 | [], [] => true
 | s :: l, v :: m => isZero s v && zerosOk l m
 | _, _ => false
theorem zerosOk_eq : ∀ {l : List S} {m : List Value}, zerosOk l m = true → m = l.map zeroV
 | [], [], _ => rfl
 | s :: l, v :: m, h => by
  simp only [zerosOk, Bool.and_eq_true] at h
  rw [List.map_cons, isZero_eq h.1, zerosOk_eq h.2]
 | [], _ :: _, h | _ :: _, [], h => by simp [zerosOk] at h
def descOk (Pg : Program) (eb : Nat) : S → TypeDesc → Bool
 | .int k, .int k' => decide (k = k')
 | .bool, .bool => true
 | .str, .string => true
 | .row cs, .slice e => match Pg.info? e with
  | some i => decide (i.size = cs.size) && decide (i.bytes = eb) && decide (i.bytes ≠ 0) && (match i.zero with
   | some z => zerosOk cs.list z.cells.toList
   | none => false) && (match cs with
    | .one (.int .u8) => match Pg.underlying e with
     | some (.int .u8) => true
     | _ => false
    | _ => true)
  | none => false
 | _, _ => false
def aggDesc : TypeDesc → Bool
 | .struct _ | .array _ _ => true
 | _ => false
def fieldsOk (Pg : Program) : List Nat → List Field → Nat → Bool
 | [], [], _ => true
 | o :: os, f :: fs, total => decide (f.offset = o) && (match Pg.info? f.type with
   | some i => decide (i.size ≠ 0) && decide (o + i.size = os.headD total) && (match Pg.underlying f.type with
    | some d => !(aggDesc d) || decide (i.size ≠ 1)
    | none => false)
   | none => false) && fieldsOk Pg os fs total
 | _, _, _ => false
def tyOk (Pg : Program) (t : Nat) : TyI → Bool
 | .no => true
 | .cell s eb => match Pg.info? t, Pg.underlying t with
  | some i, some d => decide (i.size = 1) && (match i.zero with | some z => zerosOk [s] z.cells.toList | none => false) && descOk Pg eb s d
  | _, _ => false
 | .strct offs cells => match Pg.info? t, Pg.underlying t with
  | some i, some (.struct fs) => decide (i.size = cells.length) && decide (cells.length ≠ 0) && (match i.zero with | some (.agg z) => zerosOk cells z.toList | _ => false) && fieldsOk Pg offs fs.toList cells.length
  | _, _ => false
theorem run_typeInfo {t : Nat} {i : TypeInfo} (h : Pg.info? t = some i) (w : World) : (typeInfo t).run Pg w = .ok i w := by
 unfold typeInfo program
 show (Sem.bind (Sem.program Sem.pure) _).run Pg w = _
 simp only [Sem.bind, Sem.run, h]
 rfl
theorem run_underlying {t : Nat} {d : TypeDesc} (h : Pg.underlying t = some d) (w : World) : (underlying t).run Pg w = .ok d w := by
 unfold underlying program
 show (Sem.bind (Sem.program Sem.pure) _).run Pg w = _
 simp only [Sem.bind, Sem.run, h]
 rfl
theorem run_sizeOf {t : Nat} {i : TypeInfo} (h : Pg.info? t = some i) (w : World) : (sizeOf t).run Pg w = .ok i.size w := by
 unfold sizeOf
 rw [run_bind, run_typeInfo h]
 rfl
theorem run_zeroValue {t : Nat} {i : TypeInfo} {z : Value} (h : Pg.info? t = some i) (hz : i.zero = some z) (w : World) : (zeroValue t).run Pg w = .ok z w := by
 unfold zeroValue
 rw [run_bind, run_typeInfo h]
 simp only [hz]
 rfl
theorem run_isAgg {t : Nat} {d : TypeDesc} (h : Pg.underlying t = some d) (w : World) : (isAgg t).run Pg w = .ok (aggDesc d) w := by
 unfold isAgg
 rw [run_bind, run_underlying h]
 cases d <;> rfl
end Go.PV

namespace Go.PV
theorem To.attach {c0 c c' : Cf} (t : To c0 c) (hi : c'.Inv) (hl : ∀ i j v, c.lkAt i j v → c'.lkAt i j v) (hs : ∀ p v, c.P1 p v → c'.P1 p v) (hw : c'.w = c.w) (hz : c'.Z = c.Z) (hids : ∀ id, c.rt id ≠ none → c'.rt id ≠ none)
  (ho : ∀ b, b < c0.w.heap.size → c0.O b = none → c'.O b = none) : To c0 c' := by
 refine ⟨hi, fun i j v h => hl i j v (t.lk i j v h), fun p v h => hs p v (t.stb p v h), by rw [hw]; exact t.ext.size, fun b hb hn => ⟨by rw [hw]; exact (t.ext.same b hb hn).1, ho b hb hn⟩, by rw [hz]; exact t.ext.z, by rw [hz]; exact t.ext.z', fun i h => hids i (t.ext.ids i h), by rw [hw]; exact t.ext.env⟩
theorem Ext.fresh {c : Cf} (hc : c.Inv) {id : Nat} (hid : c.rt id = none) : (∀ b j, c.O b ≠ some (.cell id j)) ∧ ∀ b, c.O b ≠ some (.box id) :=
 ⟨fun b j h => hc.oi b id j h hid, fun b h => hc.ob b id h hid⟩
theorem attach_to {c : Cf} (hc : c.Inv) {id : Nat} (hid : c.rt id = none) {r : Root} {g : Value} (F : Nat → Fp) (B : Fp)
  (hF : ∀ j b, F j b → ∃ k, c.O b = some (.det k)) (hdj : ∀ i j b, F i b → F j b → i = j)
  (hvirt : r.virt = true → r.cells.length = 1 ∧ ∀ b, ¬ B b)
  (hbox : r.virt = false → ∃ b ca E fz, g = .pointer (some ⟨b, 0, none⟩) ∧ c.w.heap[b]? = some (.cells ca E fz) ∧ ca.size = r.cells.length ∧ free fz ca.size ∧ (∀ b', B b' ↔ b' = b) ∧ (∀ j, ¬ F j b) ∧ ¬ c.Z b ∧ (c.O b = none ∨ ∃ k, c.O b = some (.det k)))
  (hlen : ∀ j b, F j b → j < r.cells.length)
  (hcell : ∀ (j : Nat) x, r.cells[j]? = some x → ∃ rv, PV.rootVal c.w r g j = some rv ∧ (match x.c with
   | .mk d e => Rep c.w c.Z e.s d e.x rv (F j)
   | .lk e => Rep c.w c.Z e.s 0 e.x rv nil' ∧ ∀ b, ¬ F j b
   | _ => False)) :
  ∃ O', (let c' : Cf := ⟨setRt c.rt id r, c.w, upd c.γ id g, O', c.Z⟩
   c'.Inv ∧ (∀ i j v, c.lkAt i j v → c'.lkAt i j v) ∧ (∀ p v, c.P1 p v → c'.P1 p v)) ∧ (∀ b, (∀ j, ¬ F j b) → ¬ B b → O' b = c.O b) ∧ (∀ b s, O' b = some s → (∃ j, s = .cell id j ∧ F j b) ∨ (s = .box id ∧ B b) ∨ (c.O b = some s ∧ (∀ j, ¬ F j b) ∧ ¬ B b)) := by
 obtain ⟨fr1, fr2⟩ := Ext.fresh hc hid
 have hdec : ∀ b, Decidable (B b) := fun b => Classical.propDecidable _
 have hdec2 : ∀ b, Decidable (∃ j, F j b) := fun b => Classical.propDecidable _
 let O' : Own := fun b => if B b then some (.box id) else if h : ∃ j, F j b then some (.cell id h.choose) else c.O b
 have oB : ∀ b, B b → O' b = some (.box id) := fun b hb => if_pos hb
 have BF : ∀ j b, F j b → ¬ B b := fun j b hf hb => by
  cases hv : r.virt with
  | true => exact (hvirt hv).2 b hb
  | false =>
   obtain ⟨b', ca, E, fz, h1, h2, h3, h4, h5, h6, _⟩ := hbox hv
   obtain rfl := (h5 b).1 hb
   exact h6 j hf
 have oF : ∀ j b, F j b → O' b = some (.cell id j) := fun j b hf => by
  have hex : ∃ j, F j b := ⟨j, hf⟩
  show (if B b then some (Site.box id) else if h : ∃ j, F j b then some (.cell id h.choose) else c.O b) = _
  rw [if_neg (BF j b hf), dif_pos hex, hdj _ _ b hex.choose_spec hf]
 have oN : ∀ b, (∀ j, ¬ F j b) → ¬ B b → O' b = c.O b := fun b h1 h2 => by
  show (if B b then some (Site.box id) else if h : ∃ j, F j b then some (.cell id h.choose) else c.O b) = _
  rw [if_neg h2, dif_neg (fun ⟨j, h⟩ => h1 j h)]
 have oS : ∀ b s, O' b = some s → (∃ j, s = .cell id j ∧ F j b) ∨ (s = .box id ∧ B b) ∨ (c.O b = some s ∧ (∀ j, ¬ F j b) ∧ ¬ B b) := fun b s h => by
  by_cases hb : B b
  ·rw [oB b hb] at h; exact .inr (.inl ⟨(Option.some.inj h).symm, hb⟩)
  ·by_cases hf : ∃ j, F j b
   ·obtain ⟨j, hf⟩ := hf
    rw [oF j b hf] at h
    exact .inl ⟨j, (Option.some.inj h).symm, hf⟩
   ·have hf' : ∀ j, ¬ F j b := fun j h => hf ⟨j, h⟩
    rw [oN b hf' hb] at h
    exact .inr (.inr ⟨h, hf', hb⟩)
 have other : ∀ b s, (∀ j, s ≠ .cell id j) → s ≠ .box id → (∀ k, s ≠ .det k) → (O' b = some s ↔ c.O b = some s) := fun b s h1 h2 h3 => by
  constructor
  ·intro h
   rcases oS b s h with ⟨j, e, _⟩ | ⟨e, _⟩ | ⟨e, _⟩
   ·exact absurd e (h1 j)
   ·exact absurd e h2
   ·exact e
  ·intro h
   rw [oN b (fun j hf => ?_) (fun hb => ?_)]
   ·exact h
   ·obtain ⟨k, e⟩ := hF j b hf
    rw [h] at e
    exact h3 k (Option.some.inj e)
   ·cases hv : r.virt with
    | true => exact (hvirt hv).2 b hb
    | false =>
     obtain ⟨b', ca, E, fz, _, _, _, _, h5, _, _, h8⟩ := hbox hv
     obtain rfl := (h5 b).1 hb
     rcases h8 with h8 | ⟨k, h8⟩
     ·rw [h] at h8; cases h8
     ·rw [h] at h8; exact h3 k (Option.some.inj h8)
 have gne : ∀ {i}, i ≠ id → upd c.γ id g i = c.γ i := fun {i} hi => by
  simp only [upd]
  rw [show Nat.beq i id = false by rw [← Bool.not_eq_true, Nat.beq_eq]; exact hi]
  rfl
 have gself : upd c.γ id g id = g := by simp [upd]
 have chg : Chg c ⟨setRt c.rt id r, c.w, upd c.γ id g, O', c.Z⟩ := by
  refine ⟨fun _ h => h, fun _ _ => rfl, fun i q hq => ?_⟩
  have hi : i ≠ id := fun e => by subst e; rw [hid] at hq; cases hq
  refine ⟨q, (setRt_ne hi).trans hq, rfl, gne hi, fun j x rv hx hv => ⟨x, rv, hx, hv, ?_⟩⟩
  obtain ⟨rv', h1, h2⟩ := (hc.root i q hq).cell j x hx
  rw [hv] at h1
  obtain rfl := Option.some.inj h1
  exact CellCh.same (Z := c.Z) (F := fun b => c.O b = some (.cell i j)) (fun d e he => by rw [he] at h2; exact h2) fun _ _ => rfl
 have zo : ∀ b, c.Z b → O' b = none := fun b hb => by
  have h0 := hc.zo b hb
  rw [oN b (fun j hf => ?_) (fun hB => ?_)]
  ·exact h0
  ·obtain ⟨k, e⟩ := hF j b hf
   rw [h0] at e
   cases e
  ·cases hv : r.virt with
   | true => exact (hvirt hv).2 b hB
   | false =>
    obtain ⟨b', ca, E, fz, _, _, _, _, h5, _, h7, _⟩ := hbox hv
    obtain rfl := (h5 b).1 hB
    exact h7 hb
 refine ⟨O', ⟨⟨fun i q hq => ?_, zo, hc.zs, fun b s h => ?_, fun b i j h => ?_, fun b i h => ?_⟩, chg.lk, chg.stb⟩, oN, oS⟩
 ·by_cases hi : i = id
  ·subst hi
   have hq : setRt c.rt i r i = some q := hq
   rw [setRt_self] at hq
   obtain rfl := Option.some.inj hq
   refine ⟨fun hv => ⟨(hvirt hv).1, fun b hb => ?_⟩, fun hv => ?_, fun j x hx => ?_, fun j hj b hb => ?_⟩
   ·rcases oS b _ hb with ⟨j, e, _⟩ | ⟨_, hB⟩ | ⟨e, _⟩
    ·cases e
    ·exact (hvirt hv).2 b hB
    ·exact fr2 b e
   ·obtain ⟨b, ca, E, fz, h1, h2, h3, h4, h5, _⟩ := hbox hv
    refine ⟨b, ca, E, fz, gself.trans h1, h2, h3, h4, fun b' => ⟨fun h => ?_, fun h => oB b' ((h5 b').2 h)⟩⟩
    rcases oS b' _ h with ⟨j, e, _⟩ | ⟨_, hB⟩ | ⟨e, _⟩
    ·cases e
    ·exact (h5 b').1 hB
    ·exact absurd e (fr2 b')
   ·obtain ⟨rv, h1, h2⟩ := hcell j x hx
    refine ⟨rv, by show PV.rootVal c.w r (upd c.γ i g i) j = some rv; rw [gself]; exact h1, ?_⟩
    have e : (fun b => O' b = some (.cell i j)) = F j := by
     funext b
     apply propext
     constructor
     ·intro h
      rcases oS b _ h with ⟨j', e, hf⟩ | ⟨e, _⟩ | ⟨e, _⟩
      ·simp only [Site.cell.injEq, true_and] at e; subst e; exact hf
      ·cases e
      ·exact absurd e (fr1 b j)
     ·exact oF j b
    cases hxc : x.c with
    | mk d k =>
     simp only [hxc] at h2
     show Rep c.w c.Z k.s d k.x rv (fun b => O' b = some (.cell i j))
     rw [e]
     exact h2
    | lk k =>
     simp only [hxc] at h2
     exact ⟨h2.1, fun b hb => h2.2 b (by have := congrFun e b; rw [← this]; exact hb)⟩
    | any => simp only [hxc] at h2
    | al => simp only [hxc] at h2
   ·rcases oS b _ hb with ⟨j', e, hf⟩ | ⟨e, _⟩ | ⟨e, _⟩
    ·simp only [Site.cell.injEq, true_and] at e
     subst e
     have := hlen j b hf
     omega
    ·cases e
    ·exact fr1 b j e
  ·have hq : setRt c.rt id r i = some q := hq
   rw [setRt_ne hi] at hq
   have hk := hc.root i q hq
   have e1 : ∀ j, (fun b => O' b = some (.cell i j)) = (fun b => c.O b = some (.cell i j)) := fun j => by
    funext b
    exact propext (other b _ (by simpa using fun h => absurd h hi) (by simp) (by simp))
   have hn : ∀ j, (∀ b, c.O b ≠ some (.cell i j)) → ∀ b, O' b ≠ some (.cell i j) := fun j hn b hb => hn b ((other b _ (by simpa using fun h => absurd h hi) (by simp) (by simp)).1 hb)
   refine ⟨fun hv => ⟨(hk.virt hv).1, fun b hb => (hk.virt hv).2 b ((other b _ (by simp) (by simpa using hi) (by simp)).1 hb)⟩, fun hv => ?_, fun j x hx => ?_, fun j hj => hn j (hk.beyond j hj)⟩
   ·obtain ⟨b, ca, E, fz, h1, h2, h3, h4, h5⟩ := hk.box hv
    exact ⟨b, ca, E, fz, (gne hi).trans h1, h2, h3, h4, fun b' => (other b' _ (by simp) (by simpa using hi) (by simp)).trans (h5 b')⟩
   ·obtain ⟨rv, h1, h2⟩ := hk.cell j x hx
    refine ⟨rv, by show PV.rootVal c.w q (upd c.γ id g i) j = some rv; rw [gne hi]; exact h1, ?_⟩
    cases hcx : x.c with
    | mk d e =>
     rw [hcx] at h2
     show Rep c.w c.Z e.s d e.x rv (fun b => O' b = some (.cell i j))
     rw [e1]
     exact h2
    | lk e => rw [hcx] at h2; exact ⟨h2.1, hn j h2.2⟩
    | any => rw [hcx] at h2; exact hn j h2
    | al => rw [hcx] at h2; exact ⟨hn j h2.1, chg.stb _ _ h2.2⟩
 ·rcases oS b s h with ⟨j, _, hf⟩ | ⟨_, hB⟩ | ⟨e, _⟩
  ·obtain ⟨k, e⟩ := hF j b hf
   exact hc.os b _ e
  ·cases hv : r.virt with
   | true => exact absurd hB ((hvirt hv).2 b)
   | false =>
    obtain ⟨b', ca, E, fz, _, h2, _, _, h5, _⟩ := hbox hv
    obtain rfl := (h5 b).1 hB
    exact (Array.getElem?_eq_some_iff.1 h2).1
  ·exact hc.os b s e
 ·by_cases hi : i = id
  ·subst hi; show setRt c.rt i r i ≠ none; rw [setRt_self]; simp
  ·show setRt c.rt id r i ≠ none
   rw [setRt_ne hi]
   exact hc.oi b i j ((other b _ (by simpa using fun h => absurd h hi) (by simp) (by simp)).1 h)
 ·by_cases hi : i = id
  ·subst hi; show setRt c.rt i r i ≠ none; rw [setRt_self]; simp
  ·show setRt c.rt id r i ≠ none
   rw [setRt_ne hi]
   exact hc.ob b i ((other b _ (by simp) (by simpa using hi) (by simp)).1 h)
end Go.PV

namespace Go.PV
variable {Pg : Program} {R : Type}
abbrev Cf.PR (c : Cf) : P → Value → Prop := PRep c.rt c.w c.γ c.Z
theorem PRep.of1 {c : Cf} {p : P} {v : Value} (h : c.P1 p v) : c.PR p v := by
 cases p <;> first | exact h | exact h.elim
theorem PR_stab {c c' : Cf} (t : ∀ p v, c.P1 p v → c'.P1 p v) {p : P} {v : Value} (h : c.PR p v) : c'.PR p v := by
 have a : ∀ p v, PRepA c.rt c.w c.γ c.Z p v → PRepA c'.rt c'.w c'.γ c'.Z p v := by
  intro p v h
  cases p with
  | agg l =>
   obtain ⟨vs, h1, h2, h3⟩ := h
   exact ⟨vs, h1, h2, fun i p u e1 e2 => t _ _ (h3 i p u e1 e2)⟩
  | dead => exact t .dead v h
  | und => exact t .und v h
  | e => exact t .e v h
  | cv k => exact t (.cv k) v h
  | ref i j st cut n => exact t (.ref i j st cut n) v h
  | addr i j st n => exact t (.addr i j st n) v h
  | ra cs xs i j => exact t (.ra cs xs i j) v h
  | tup l => exact h.elim
 cases p with
 | tup l =>
  obtain ⟨vs, h1, h2, h3⟩ := h
  exact ⟨vs, h1, h2, fun i p u e1 e2 => a _ _ (h3 i p u e1 e2)⟩
 | dead => exact a .dead v h
 | und => exact a .und v h
 | e => exact a .e v h
 | cv k => exact a (.cv k) v h
 | ref i j st cut n => exact a (.ref i j st cut n) v h
 | addr i j st n => exact a (.addr i j st n) v h
 | ra cs xs i j => exact a (.ra cs xs i j) v h
 | agg l => exact a (.agg l) v h
theorem PR_cv {c : Cf} {k : CV} {v : Value} : c.PR (.cv k) v ↔ Rep c.w c.Z k.s 0 k.x v nil' := Iff.rfl
def Post (c : Cf) (r : R) (K : P → Option Rt → Option R) (v : Value) (w' : World) : Prop :=
 ∃ p o' c', K p o' = some r ∧ c'.w = w' ∧ (∀ rt', o' = some rt' → c'.rt = rt') ∧ (o' = none → c'.rt = c.rt) ∧ To c c' ∧ ND c'.O ∧ c'.PR p v
def Does (Pg : Program) (s : Sem Next) (w : World) (post : Value → World → Prop) : Prop := match s.run Pg w with
 | .ok (.value v) w' => post v w'
 | .ok .skip w' => post undef w'
 | .ok (.enter f args) w' => Calls Pg f args w' fun e w'' => ∃ v, e = .returned v ∧ post v w''
 | _ => False
theorem Does.value {s : Sem Next} {w w' : World} {post : Value → World → Prop} {v : Value} (h : s.run Pg w = .ok (.value v) w') (hp : post v w') : Does Pg s w post := by
 unfold Does; rw [h]; exact hp
theorem Post.still {c : Cf} (hc : c.Inv) (nd : ND c.O) {r : R} {K : P → Option Rt → Option R} {p : P} {v : Value} (h : K p none = some r) (hp : c.PR p v) : Post c r K v c.w :=
 ⟨p, none, c, h, rfl, (fun _ h => by cases h), fun _ => rfl, To.refl hc, nd, hp⟩
theorem run_v {s : Sem Value} {w w' : World} {v : Value} (h : s.run Pg w = .ok v w') : (do pure (Next.value (← s)) : Sem Next).run Pg w = .ok (.value v) w' := by
 rw [run_bind, h]; rfl
theorem binop_run {op : BinOp} {a b : CV} {ok : Bool} {k : CV} {c : Cf} {x y : Value} (h : binop op a b = some (ok, k)) (hok : ok = true) (hx : c.PR (.cv a) x) (hy : c.PR (.cv b) y) (t : Nat) {ti : TyI} (htk : tyOk Pg t ti = true) (hbool : a.s = .bool → ∃ eb, ti = .cell .bool eb) (X Y : Operand) :
  ∃ v, (do eqGuard op t X Y x y; binOp op t x y : Sem Value).run Pg c.w = .ok v c.w ∧ c.PR (.cv k) v := by
 obtain ⟨sa, xa⟩ := a
 obtain ⟨sb, xb⟩ := b
 subst hok
 cases sa with
 | row cs => cases op <;> simp [binop] at h
 | int ka =>
  obtain ⟨rfl, _⟩ := hx
  cases sb with
  | row cs => cases op <;> simp [binop] at h
  | bool => cases op <;> simp [binop] at h
  | str => cases op <;> simp [binop] at h
  | int kb =>
   obtain ⟨rfl, _⟩ := hy
   cases op <;> simp only [binop, Option.some.injEq, Prod.mk.injEq, decide_eq_true_eq] at h <;>
    first
     | (obtain ⟨h1, rfl⟩ := h
        refine ⟨_, ?_, ⟨rfl, rfl⟩⟩
        simp [eqGuard, binOp, Op.shift, run_bind, run_pure, h1]
        done)
     | skip
   all_goals
    by_cases hk : ka = kb
    ·subst hk
     simp only [decide_true, cond_true, Option.some.injEq, Prod.mk.injEq, decide_eq_true_eq, reduceCtorEq] at h
     obtain ⟨h1, rfl⟩ := h
     refine ⟨_, ?_, ⟨rfl, rfl⟩⟩
     simp [eqGuard, binOp, Op.intArith, Op.intDiv, Op.intBits, Op.intCmp, run_bind, run_pure]
     try simp [h1]
     try rfl
    ·simp [hk] at h
 | bool =>
  obtain ⟨rfl, _⟩ := hx
  cases sb with
  | bool =>
   obtain ⟨rfl, _⟩ := hy
   obtain ⟨eb, hty⟩ := hbool rfl
   have hu : Pg.underlying t = some .bool := by
    have := htk
    rw [hty] at this
    simp only [tyOk] at this
    cases hi : Pg.info? t with
    | none => simp [hi] at this
    | some i =>
     cases hd : Pg.underlying t with
     | none => simp [hi, hd] at this
     | some d => cases d <;> simp [hi, hd, descOk] at this <;> rfl
   have heq : ∀ (x y : Bool) w, (Op.equal t (.bool x) (.bool y)).run Pg w = .ok (x == y) w := fun x y w => by
    unfold Op.equal Op.maxDepth
    rw [Op.equalIn, run_bind, run_underlying hu]
    rfl
   cases op <;> simp only [binop, Option.some.injEq, Prod.mk.injEq, reduceCtorEq] at h
   all_goals
    obtain ⟨h1, rfl⟩ := h
    refine ⟨_, ?_, ⟨rfl, rfl⟩⟩
    simp [eqGuard, binOp, run_bind, run_pure, heq]
    try rfl
  | _ => cases op <;> simp [binop] at h
 | str =>
  obtain ⟨rfl, _⟩ := hx
  cases sb with
  | str =>
   obtain ⟨rfl, _⟩ := hy
   cases op <;> simp only [binop, Option.some.injEq, Prod.mk.injEq, decide_eq_true_eq, reduceCtorEq] at h
   all_goals
    obtain ⟨h1, rfl⟩ := h
    refine ⟨_, ?_, ⟨rfl, rfl⟩⟩
    simp [eqGuard, binOp, Op.stringOp, run_bind, run_pure]
    try (rw [if_neg (by omega)])
    try rfl
  | _ => cases op <;> simp [binop] at h
end Go.PV

namespace Go.PV
variable {Pg : Program} {R : Type}
def pushW (w : World) (o : Obj) : World := { w with heap := w.heap.push o }
theorem push_old {w : World} {o : Obj} {b : Nat} (h : b < w.heap.size) : (pushW w o).heap[b]? = w.heap[b]? := by
 simp only [pushW, Array.getElem?_push]
 rw [if_neg (by omega)]
theorem push_new {w : World} {o : Obj} : (pushW w o).heap[w.heap.size]? = some o := by simp [pushW]
theorem push_size {w : World} {o : Obj} : (pushW w o).heap.size = w.heap.size + 1 := by simp [pushW]
noncomputable def withDet (O : Own) (n k : Nat) : Own := fun b => if b = n then some (.det k) else O b
theorem newDet_to {c : Cf} (hc : c.Inv) (o : Obj) (k : Nat) : To c ⟨c.rt, pushW c.w o, c.γ, withDet c.O c.w.heap.size k, c.Z⟩ := by
 have hO : c.O c.w.heap.size = none := by
  cases h : c.O c.w.heap.size with
  | none => rfl
  | some s => exact absurd (hc.os _ s h) (Nat.lt_irrefl _)
 have hZ : ¬ c.Z c.w.heap.size := fun h => Nat.lt_irrefl _ (hc.zs _ h)
 have sm : Sm c (pushW c.w o) := ⟨by rw [push_size]; omega, fun b hb => push_old (hb.elim (hc.zs b) fun ⟨s, h, _⟩ => hc.os b s h)⟩
 have t := To.world hc sm (fun b hb _ => push_old hb) ⟨rfl, rfl, rfl⟩
 have i1 := t.inv
 have ne : ∀ b s, (∀ k, s ≠ .det k) → (withDet c.O c.w.heap.size k b = some s ↔ c.O b = some s) := fun b s hs => by
  unfold withDet
  split
  ·rename_i hb
   subst hb
   rw [hO]
   constructor
   ·intro h; exact absurd (Option.some.inj h).symm (hs k)
   ·intro h; cases h
  ·rfl
 have e1 : ∀ i j, (fun b => withDet c.O c.w.heap.size k b = some (.cell i j)) = (fun b => c.O b = some (.cell i j)) := fun i j => by
  funext b; exact propext (ne b _ (by simp))
 refine ⟨⟨fun id r hr => ?_, fun b hb => ?_, i1.zs, fun b s hs => ?_, fun b i j hb => i1.oi b i j ((ne b _ (by simp)).1 hb), fun b i hb => i1.ob b i ((ne b _ (by simp)).1 hb)⟩, t.lk, t.stb, ⟨t.ext.size, fun b hb hn => ⟨(t.ext.same b hb hn).1, ?_⟩, t.ext.z, t.ext.z', t.ext.ids, t.ext.env⟩⟩
 ·have hk := i1.root id r hr
  refine ⟨fun hv => ⟨(hk.virt hv).1, fun b hb => (hk.virt hv).2 b ((ne b _ (by simp)).1 hb)⟩, fun hv => ?_, fun j x hx => ?_, fun j hj b hb => hk.beyond j hj b ((ne b _ (by simp)).1 hb)⟩
  ·obtain ⟨b, ca, E, fz, h1, h2, h3, h4, h5⟩ := hk.box hv
   exact ⟨b, ca, E, fz, h1, h2, h3, h4, fun b' => (ne b' _ (by simp)).trans (h5 b')⟩
  ·obtain ⟨rv, h1, h2⟩ := hk.cell j x hx
   refine ⟨rv, h1, ?_⟩
   have hn : (∀ b, c.O b ≠ some (.cell id j)) → ∀ b, withDet c.O c.w.heap.size k b ≠ some (.cell id j) := fun hn b hb => hn b ((ne b _ (by simp)).1 hb)
   cases hcx : x.c with
   | mk d e =>
    rw [hcx] at h2
    show Rep (pushW c.w o) c.Z e.s d e.x rv (fun b => withDet c.O c.w.heap.size k b = some (.cell id j))
    rw [e1]
    exact h2
   | lk e => rw [hcx] at h2; exact ⟨h2.1, hn h2.2⟩
   | any => rw [hcx] at h2; exact hn h2
   | al => rw [hcx] at h2; exact ⟨hn h2.1, h2.2⟩
 ·show withDet c.O c.w.heap.size k b = none
  unfold withDet
  rw [if_neg (fun e : b = c.w.heap.size => hZ (by rw [← e]; exact hb))]
  exact i1.zo b hb
 ·show b < (pushW c.w o).heap.size
  rw [push_size]
  by_cases hb : b = c.w.heap.size
  ·omega
  ·have hs : withDet c.O c.w.heap.size k b = some s := hs
   unfold withDet at hs
   rw [if_neg hb] at hs
   have := hc.os b s hs
   omega
 ·show withDet c.O c.w.heap.size k b = none
  unfold withDet
  rw [if_neg (by omega)]
  exact hn
theorem withDet_det {c : Cf} {k : Nat} (hk : ∀ b, c.O b ≠ some (.det k)) : (fun b => withDet c.O c.w.heap.size k b = some (.det k)) = (fun b => b = c.w.heap.size) := by
 funext b
 unfold withDet
 apply propext
 split
 ·simp [*]
 ·rename_i h
  constructor
  ·intro h2; exact absurd h2 (hk b)
  ·intro h2; exact absurd h2 h
theorem Rep.zero {w : World} {Z : Fp} : ∀ {s : S} {d : Nat}, s.depth ≤ d ∨ d = full → Rep w Z s d s.d (zeroV s) nil'
 | .int k, _, _ => ⟨rfl, rfl⟩
 | .bool, _, _ => ⟨rfl, rfl⟩
 | .str, _, _ => ⟨rfl, rfl⟩
 | .row cs, 0, h => by rcases h with h | h <;> simp [S.depth, full] at h
 | .row cs, d + 1, _ => by
  simp only [Rep, zeroV, S.d]
  exact ⟨none, 0, rfl, Nat.le_refl _, .inl ⟨rfl, rfl, trivial, trivial⟩⟩
theorem Rep.zero1 {w : World} {Z : Fp} : ∀ {s : S} {d : Nat}, Rep w Z s (d + 1) s.d (zeroV s) nil'
 | .int k, _ => ⟨rfl, rfl⟩
 | .bool, _ => ⟨rfl, rfl⟩
 | .str, _ => ⟨rfl, rfl⟩
 | .row cs, d => by
  simp only [Rep, zeroV, S.d]
  exact ⟨none, 0, rfl, Nat.le_refl _, .inl ⟨rfl, rfl, trivial, trivial⟩⟩
theorem RepC.zero {w : World} {Z : Fp} : ∀ {cs : SS} {d b o : Nat}, (∀ i s, cs.list[i]? = some s → w.cell? ⟨b, o + i, none⟩ = some (zeroV s)) → RepC w Z cs (d + 1) cs.d b o nil'
 | .one s, d, b, o, h => by
  simp only [RepC]
  exact ⟨zeroV s, h 0 s rfl, Rep.zero1⟩
 | .cons s cs, d, b, o, h => by
  simp only [RepC]
  refine ⟨zeroV s, nil', nil', h 0 s rfl, Rep.zero1, RepC.zero (fun i t ht => ?_), by funext b; simp [nil'], fun _ h => h.elim⟩
  have := h (i + 1) t (by simpa [SS.list] using ht)
  rwa [← Nat.add_assoc, Nat.add_right_comm] at this
theorem SS.list_length : ∀ cs : SS, cs.list.length = cs.size
 | .one _ => rfl
 | .cons _ cs => by simp [SS.list, SS.size, SS.list_length cs]
theorem alloc_to {c : Cf} (hc : c.Inv) (nd : ND c.O) {id : Nat} (hid : c.rt id = none) {l : List S} {arr : Array Value} (harr : arr.toList = l.map zeroV) (E : TypeId) :
  ∃ O', To c ⟨setRt c.rt id ⟨false, zeroCells l⟩, pushW c.w (.cells arr E), upd c.γ id (.pointer (some ⟨c.w.heap.size, 0, none⟩)), O', c.Z⟩ ∧ ND O' := by
 have t := newDet_to hc (.cells arr E) 0
 have hsz : arr.size = l.length := by rw [← Array.length_toList, harr]; simp
 have hdet := withDet_det (fun b => nd b 0)
 obtain ⟨O', ⟨i1, l1, s1⟩, oN, oS⟩ := attach_to t.inv (id := id) hid (r := ⟨false, zeroCells l⟩) (g := .pointer (some ⟨c.w.heap.size, 0, none⟩)) (fun _ => nil') (fun b => b = c.w.heap.size)
  (fun _ _ h => h.elim) (fun _ _ _ h => h.elim) (fun h => by cases h) (fun _ => ⟨c.w.heap.size, arr, E, (0, 0), rfl, push_new, by simp [zeroCells, hsz], fun i _ h => by omega, fun _ => Iff.rfl, fun _ h => h, fun h => Nat.lt_irrefl _ (hc.zs _ h), .inr ⟨0, by simp [withDet]⟩⟩)
  (fun _ _ h => h.elim) (fun j x hx => by
   simp only [zeroCells, List.getElem?_map, Option.map_eq_some_iff] at hx
   obtain ⟨s, hs, rfl⟩ := hx
   refine ⟨zeroV s, ?_, Rep.zero (.inr rfl)⟩
   simp only [PV.rootVal, World.cell?, push_new]
   have : arr[j]? = some (zeroV s) := by rw [← Array.getElem?_toList, harr, List.getElem?_map, hs]; rfl
   simpa using this)
 refine ⟨O', To.attach t i1 l1 s1 rfl rfl (fun i h => setRt_some h) (fun b hb hn => ?_), fun b k hb => ?_⟩
 ·refine (oN b (fun _ h => h) (by omega)).trans ?_
  show withDet c.O c.w.heap.size 0 b = none
  unfold withDet
  rw [if_neg (by omega)]
  exact hn
 ·rcases oS b _ hb with ⟨j, e, _⟩ | ⟨e, _⟩ | ⟨e, _, hne⟩
  ·cases e
  ·cases e
  ·have e : withDet c.O c.w.heap.size 0 b = some (.det k) := e
   unfold withDet at e
   rw [if_neg hne] at e
   exact nd b k e
theorem row_to {c0 c : Cf} (t : To c0 c) {id : Nat} (hid : c.rt id = none) {cs : SS} {d : Nat} {xs : List cs.T} {v : Value} {F : Fp} (hF : ∀ b, F b → ∃ k, c.O b = some (.det k)) (hp : Rep c.w c.Z (.row cs) d xs v F) :
  ∃ O', To c0 ⟨setRt c.rt id ⟨true, [⟨0, 0, .mk d ⟨.row cs, xs⟩⟩]⟩, c.w, upd c.γ id v, O', c.Z⟩ ∧ (∀ b k, O' b = some (.det k) → c.O b = some (.det k) ∧ ¬ F b) ∧
   PRep1 (setRt c.rt id ⟨true, [⟨0, 0, .mk d ⟨.row cs, xs⟩⟩]⟩) c.w (upd c.γ id v) c.Z (.ref id 0 [] none 0) v := by
 obtain ⟨O', ⟨i1, l1, s1⟩, oN, oS⟩ := attach_to t.inv (id := id) hid (r := ⟨true, [⟨0, 0, .mk d ⟨.row cs, xs⟩⟩]⟩) (g := v) (fun j b => j = 0 ∧ F b) nil'
  (fun j b h => hF b h.2) (fun i j b h1 h2 => h1.1.trans h2.1.symm) (fun _ => ⟨rfl, fun _ h => h⟩) (fun h => by cases h) (fun j b h => by simp [h.1]) (fun j x hx => by
   cases j with
   | zero =>
    simp only [List.getElem?_cons_zero, Option.some.injEq] at hx
    subst hx
    refine ⟨v, rfl, ?_⟩
    show Rep c.w c.Z (.row cs) d xs v (fun b => 0 = 0 ∧ F b)
    have : (fun b => (0 : Nat) = 0 ∧ F b) = F := by funext b; simp
    rw [this]
    exact hp
   | succ j => simp at hx)
 refine ⟨O', To.attach t i1 l1 s1 rfl rfl (fun i h => setRt_some h) (fun b hb hn => ?_), fun b k hb => ?_, ⟨_, ⟨0, 0, .mk d ⟨.row cs, xs⟩⟩, v, setRt_self, rfl, ?_, ⟨Nat.le_refl _, (Rep.slice hp).1 rfl⟩, fun _ => ?_⟩⟩
 ·have hcn := (t.ext.same b hb hn).2
  exact (oN b (fun j h => by obtain ⟨k, e⟩ := hF b h.2; rw [hcn] at e; cases e) (fun h => h)).trans hcn
 ·rcases oS b _ hb with ⟨j, e, _⟩ | ⟨e, _⟩ | ⟨e, hne, _⟩
  ·cases e
  ·cases e
  ·exact ⟨e, fun hf => hne 0 ⟨rfl, hf⟩⟩
 ·simp [PV.rootVal, upd]
 ·exact ⟨v, cs, xs, by simp only [inR], rfl, getP_nil _ _, (fun n h => by cases h), (cutV_none v).symm⟩
end Go.PV

namespace Go.PV
variable {Pg : Program} {R : Type}
theorem resP1_rep {c : Cf} (hc : c.Inv) {p : P} {v : Value} (h : c.P1 p v) : c.P1 (resP1 c.rt p) v := by
 cases p with
 | ref id j st cut n =>
  cases st with
  | cons q st => exact h
  | nil =>
   simp only [resP1]
   cases hx : cellAt c.rt id j with
   | none => exact h
   | some x =>
    simp only
    obtain ⟨r, hr, hxj⟩ := cellAt_some hx
    cases hxc : x.c with
    | al id2 j2 st2 cut2 v2 =>
     simp only
     cases hb : (Nat.beq x.hv n && cut2.isNone && cut.isNone) with
     | false => exact h
     | true =>
      simp only [cond_true]
      simp only [Bool.and_eq_true] at hb
      obtain ⟨⟨h1, h2⟩, h3⟩ := hb
      obtain rfl : cut2 = none := by simpa using h2
      obtain rfl : cut = none := by simpa using h3
      have hn : x.hv = n := Nat.eq_of_beq_eq_true h1
      obtain ⟨r', x', rv, p1, p2, p3, p4, p5⟩ := h
      rw [hr] at p1
      obtain rfl := Option.some.inj p1
      rw [hxj] at p2
      obtain rfl := Option.some.inj p2
      have h5 := p5 hn.symm
      unfold RefOk at h5
      simp only [hxc] at h5
      rw [h5.2, cutV_none]
      obtain ⟨rv', e1, e2⟩ := (hc.root id r hr).cell j x hxj
      rw [p3] at e1
      obtain rfl := Option.some.inj e1
      rw [hxc] at e2
      exact e2.2
    | _ => exact h
 | _ => exact h
theorem PR_agg {c : Cf} {l : List P} {v : Value} : c.PR (.agg l) v ↔ ∃ vs : Array Value, v = .agg vs ∧ vs.size = l.length ∧ ∀ (i : Nat) p u, l[i]? = some p → vs[i]? = some u → c.P1 p u := Iff.rfl
theorem resP_rep {c : Cf} (hc : c.Inv) {p : P} {v : Value} (h : c.PR p v) : c.PR (resP c.rt p) v := by
 cases p with
 | agg l =>
  obtain ⟨vs, h1, h2, h3⟩ := h
  exact ⟨vs, h1, by simpa using h2, fun i p u e1 e2 => by
   simp only [List.getElem?_map, Option.map_eq_some_iff] at e1
   obtain ⟨q, e3, rfl⟩ := e1
   exact resP1_rep hc (h3 i q u e3 e2)⟩
 | tup l =>
  obtain ⟨vs, h1, h2, h3⟩ := h
  refine ⟨vs, h1, by simpa using h2, fun i p u e1 e2 => ?_⟩
  simp only [List.getElem?_map, Option.map_eq_some_iff] at e1
  obtain ⟨q, e3, rfl⟩ := e1
  have := h3 i q u e3 e2
  cases q with
  | agg l => exact this
  | ref i j st cut n =>
   have h9 := resP1_rep hc (p := .ref i j st cut n) this
   have : ∀ q, (∃ i j st cut n, q = P.ref i j st cut n) → c.P1 q u → PRepA c.rt c.w c.γ c.Z q u := by
    rintro q ⟨i, j, st, cut, n, rfl⟩ h; exact h
   refine this _ ?_ h9
   unfold resP1
   split
   ·split
    ·split
     ·split
      ·cases hb : (Nat.beq _ _ && _ && _) <;> simp
      ·exact ⟨_, _, _, _, _, rfl⟩
     ·exact ⟨_, _, _, _, _, rfl⟩
    ·exact ⟨_, _, _, _, _, rfl⟩
   ·rename_i h; exact absurd rfl (h _ _ _ _ _)
  | _ => exact this
 | dead => trivial
 | und => exact h
 | e => exact h
 | cv k => exact h
 | ref i j st cut n => exact PRep.of1 (resP1_rep hc (p := .ref i j st cut n) h)
 | addr i j st n => exact h
 | ra cs xs i j => exact h
section
variable {cx : Cx} (ok : ∀ t, tyOk Pg t (cx.ty t) = true)
include ok
theorem ty_cell {t : Nat} {s : S} {eb : Nat} (h : cx.ty t = .cell s eb) : ∃ i d, Pg.info? t = some i ∧ Pg.underlying t = some d ∧ i.size = 1 ∧ (∃ z, i.zero = some z ∧ z.cells.toList = [zeroV s]) ∧ descOk Pg eb s d = true := by
 have := ok t
 rw [h] at this
 simp only [tyOk] at this
 cases hi : Pg.info? t with
 | none => simp [hi] at this
 | some i =>
  cases hd : Pg.underlying t with
  | none => simp [hi, hd] at this
  | some d =>
   simp only [hi, hd, Bool.and_eq_true, decide_eq_true_eq] at this
   refine ⟨i, d, rfl, rfl, this.1.1, ?_, this.2⟩
   cases hz : i.zero with
   | none => simp [hz] at this
   | some z =>
    have h2 := this.1.2
    rw [hz] at h2
    exact ⟨z, rfl, zerosOk_eq h2⟩
theorem ty_strct {t : Nat} {offs : List Nat} {cells : List S} (h : cx.ty t = .strct offs cells) : ∃ i fs, Pg.info? t = some i ∧ Pg.underlying t = some (.struct fs) ∧ i.size = cells.length ∧ cells.length ≠ 0 ∧ (∃ z : Array Value, i.zero = some (.agg z) ∧ z.toList = cells.map zeroV) ∧ fieldsOk Pg offs fs.toList cells.length = true := by
 have := ok t
 rw [h] at this
 simp only [tyOk] at this
 cases hi : Pg.info? t with
 | none => simp [hi] at this
 | some i =>
  cases hd : Pg.underlying t with
  | none => simp [hi, hd] at this
  | some d =>
   cases d with
   | struct fs =>
    simp only [hi, hd, Bool.and_eq_true, decide_eq_true_eq] at this
    refine ⟨i, fs, rfl, rfl, this.1.1.1, this.1.1.2, ?_, this.2⟩
    cases hz : i.zero with
    | none => simp [hz] at this
    | some z =>
     have h2 := this.1.2
     rw [hz] at h2
     cases z with
     | agg z => exact ⟨z, rfl, zerosOk_eq h2⟩
     | _ => simp at h2
   | _ => simp [hi, hd] at this
omit ok in
theorem desc_noagg {eb : Nat} {s : S} {d : TypeDesc} (h : descOk Pg eb s d = true) : aggDesc d = false := by
 cases s <;> cases d <;> simp_all [descOk, aggDesc]
theorem load_cell {c : Cf} (hc : c.Inv) {t : Nat} {s : S} {eb : Nat} (ht : cx.ty t = .cell s eb) {a q : P} {va : Value} (h : rdAt c.rt a = some q) (ha : c.P1 a va) :
  ∃ v, (Instr.loadAt t va).run Pg c.w = .ok v c.w ∧ c.P1 q v := by
 obtain ⟨i, d, h1, h2, h3, h4, h5⟩ := ty_cell ok ht
 obtain ⟨ad, v, rfl, e2, e3⟩ := rdAt_rep hc h ha
 refine ⟨v, ?_, e3⟩
 unfold Instr.loadAt
 rw [run_bind]
 simp only [Instr.sureAddr, run_pure, loadVar]
 rw [run_bind, run_isAgg h2, desc_noagg h5]
 simp only [Bool.false_eq_true, if_false]
 show (Sem.load .plain ad Sem.pure).run Pg c.w = _
 simp only [Sem.run, e2]
theorem load_strct {c : Cf} (hc : c.Inv) {t : Nat} {offs : List Nat} {l : List S} (ht : cx.ty t = .strct offs l) {a : P} {ps : List P} {va : Value} (h : rdCells c.rt a l.length 0 = some ps) (ha : c.P1 a va) :
  ∃ v, (Instr.loadAt t va).run Pg c.w = .ok v c.w ∧ c.PR (.agg ps) v := by
 obtain ⟨i, fs, h1, h2, h3, h4, h5, h6⟩ := ty_strct ok ht
 have hptr : ∃ ad, va = .pointer (some ad) := by
  cases hl : l.length with
  | zero => exact absurd hl h4
  | succ n =>
   rw [hl] at h
   simp only [rdCells] at h
   cases hm : moveOn a 0 with
   | none => rw [hm] at h; cases h
   | some q =>
    rw [hm] at h
    simp only at h
    cases hq : rdAt c.rt q with
    | none => rw [hq] at h; cases h
    | some x =>
     obtain ⟨ad, v, e1, _⟩ := rdAt_rep hc hq (moveOn_rep hm ha)
     cases va <;> simp [shiftV] at e1
     rename_i p
     cases p with
     | none => simp [shiftV] at e1
     | some p => exact ⟨p, rfl⟩
 obtain ⟨ad, rfl⟩ := hptr
 obtain ⟨vs, f1, f2, f3, f4⟩ := rdCells_rep (Pg := Pg) hc ha (acc := #[]) h
 refine ⟨.agg vs.toArray, ?_, vs.toArray, rfl, by simpa using f2, fun i p u e1 e2 => f4 i p u e1 (by simpa using e2)⟩
 unfold Instr.loadAt
 rw [run_bind]
 simp only [Instr.sureAddr, run_pure, loadVar]
 rw [run_bind, run_isAgg h2]
 simp only [aggDesc, if_true]
 rw [run_bind, run_sizeOf h1, h3]
 simp only [loadCells]
 rw [run_bind, f1]
 simp [run_pure]
theorem store_run {c : Cf} (hc : c.Inv) (nd : ND c.O) {t : Nat} {a p : P} {va v : Value} {rt' : Rt} (h : putCells c.rt a (cx.ty t).cells p.cells 0 = some rt') (hne : (cx.ty t).cells ≠ []) (ha : c.P1 a va) (hp : c.PR p v) :
  ∃ ad w' O' Z', va = .pointer (some ad) ∧ v.cells.size = (cx.ty t).cells.length ∧ (storeCells ad v.cells.toList).run Pg c.w = .ok () w' ∧ (Instr.storeAt t va v).run Pg c.w = .ok () w' ∧ To c ⟨rt', w', c.γ, O', Z'⟩ ∧ ND O' := by
 have hlen : ∀ {ss : List S} {ps : List P} {k : Nat} {rt rt' : Rt}, putCells rt a ss ps k = some rt' → ss.length = ps.length := by
  intro ss
  induction ss with
  | nil => intro ps k rt rt' h; cases ps with
   | nil => rfl
   | cons => simp [putCells] at h
  | cons s ss ih =>
   intro ps k rt rt' h
   cases ps with
   | nil => simp [putCells] at h
   | cons p ps =>
    simp only [putCells] at h
    split at h
    ·split at h
     ·simp [ih h]
     ·cases h
    ·cases h
 have hl := hlen h
 have hfirst : ∃ s ss p1 ps q rt1, (cx.ty t).cells = s :: ss ∧ p.cells = p1 :: ps ∧ moveOn a 0 = some q ∧ putAt c.rt q s p1 = some rt1 := by
  cases hc1 : (cx.ty t).cells with
  | nil => exact absurd hc1 hne
  | cons s ss =>
   cases hc2 : p.cells with
   | nil => rw [hc1, hc2] at hl; simp at hl
   | cons p1 ps =>
    rw [hc1, hc2] at h
    simp only [putCells, atK] at h
    cases hm : moveOn a 0 with
    | none => rw [hm] at h; cases h
    | some q =>
     rw [hm] at h
     simp only at h
     cases hq : putAt c.rt q s p1 with
     | none => rw [hq] at h; cases h
     | some rt1 => exact ⟨s, ss, p1, ps, q, rt1, rfl, rfl, rfl, hq⟩
 obtain ⟨s, ss, p1, ps, q, rt1, e1, e2, e3, e4⟩ := hfirst
 have hv : v.cells.toList.length = p.cells.length ∧ ∀ (i : Nat) p' v', p.cells[i]? = some p' → v.cells.toList[i]? = some v' → c.P1 p' v' := by
  have single : p.cells = [p] → c.P1 p v → v.cells.toList.length = p.cells.length ∧ ∀ (i : Nat) p' v', p.cells[i]? = some p' → v.cells.toList[i]? = some v' → c.P1 p' v' := by
   intro hps hp1
   rw [hps] at e2 ⊢
   obtain ⟨rfl, rfl⟩ := List.cons.inj e2
   obtain ⟨ad, _, st⟩ := putAt_to hc nd e4 (moveOn_rep e3 ha) hp1
   have ho := st.one
   have : v.cells = #[v] := by cases v <;> first | rfl | exact ho.elim
   rw [this]
   refine ⟨rfl, fun i p' v' h1 h2 => ?_⟩
   cases i with
   | zero => simp only [List.getElem?_cons_zero, Option.some.injEq] at h1 h2; subst h1 h2; exact hp1
   | succ i => simp at h1
  cases p with
  | agg l =>
   obtain ⟨vs, rfl, g2, g3⟩ := hp
   refine ⟨by simpa [Value.cells, P.cells] using g2, fun i p' v' h1 h2 => g3 i p' v' h1 (by simpa [Value.cells] using h2)⟩
  | tup l =>
   simp only [P.cells] at e2
   obtain ⟨rfl, rfl⟩ := List.cons.inj e2
   exfalso
   cases q <;> simp [putAt] at e4
   rename_i id j st n
   cases st with
   | nil =>
    simp only at e4
    cases hvt : isVirt c.rt id with
    | true => rw [hvt] at e4; cases e4
    | false =>
     rw [hvt] at e4
     simp only [cond_false, putBox] at e4
     cases hx : cellAt c.rt id j with
     | none => rw [hx] at e4; cases e4
     | some x => rw [hx] at e4; simp only at e4; cases hk : x.c.isLk <;> rw [hk] at e4 <;> cases s <;> simp [takeRow] at e4
   | cons q st =>
    simp only [putElem] at e4
    cases hx : cellAt c.rt id j with
    | none => rw [hx] at e4; cases e4
    | some x =>
     rw [hx] at e4
     simp only at e4
     cases hxc : x.c <;> simp only [hxc] at e4 <;> try (cases e4)
     rename_i d k
     cases hb : (x.ok (q :: st) n && Nat.ble (q :: st).length d) <;> rw [hb] at e4 <;> cases s <;> simp [takeRow] at e4
  | dead => exact single rfl hp
  | und => exact single rfl hp
  | e => exact single rfl hp
  | cv k => exact single rfl hp
  | ref i j st cut n => exact single rfl hp
  | addr i j st n => exact single rfl hp
  | ra cs xs i j => exact single rfl hp
 have hptr : ∃ ad, va = .pointer (some ad) := by
  have hp1 : ∃ u, c.P1 p1 u := by
   have h0 : p.cells[0]? = some p1 := by rw [e2]; rfl
   have hlt : 0 < v.cells.toList.length := by rw [hv.1, e2]; simp
   exact ⟨_, hv.2 0 p1 _ h0 (List.getElem?_eq_getElem hlt)⟩
  obtain ⟨u, hu⟩ := hp1
  obtain ⟨ad, e5, _⟩ := putAt_to hc nd e4 (moveOn_rep e3 ha) hu
  cases va <;> simp [shiftV] at e5
  rename_i p
  cases p with
  | none => simp [shiftV] at e5
  | some p => exact ⟨p, rfl⟩
 obtain ⟨ad, rfl⟩ := hptr
 obtain ⟨w', O', Z', r1, r2, r3⟩ := putCells_to (Pg := Pg) hc nd h (by exact ha) hv.1 hv.2
 have hvl : v.cells.size = (cx.ty t).cells.length := by rw [hl, ← hv.1, Array.length_toList]
 refine ⟨ad, w', O', Z', rfl, hvl, r1, ?_, r2, r3⟩
 have hsize : ∃ i, Pg.info? t = some i ∧ i.size = (cx.ty t).cells.length := by
  cases hty : cx.ty t with
  | no => rw [hty] at hne; exact absurd rfl hne
  | cell s eb => obtain ⟨i, d, h1, h2, h3, _⟩ := ty_cell ok hty; exact ⟨i, h1, by simp [TyI.cells, h3]⟩
  | strct offs l => obtain ⟨i, fs, h1, h2, h3, _⟩ := ty_strct ok hty; exact ⟨i, h1, by simp [TyI.cells, h3]⟩
 obtain ⟨i, hi, hsz⟩ := hsize
 unfold Instr.storeAt
 rw [run_bind]
 simp only [Instr.sureAddr, run_pure, storeVar]
 rw [run_bind, run_sizeOf hi]
 have hcs : v.cells.size = i.size := by rw [hsz, hl, ← hv.1, Array.length_toList]
 simp only [hcs, ne_eq, not_true_eq_false, if_false]
 exact r1
end
end Go.PV

namespace Go.PV
variable {Pg : Program} {R : Type}
theorem fieldsOk_at {Pg : Program} {total : Nat} : ∀ {offs : List Nat} {fs : List Field} {k off : Nat}, fieldsOk Pg offs fs total = true → offs[k]? = some off →
  ∃ f, fs[k]? = some f ∧ f.offset = off ∧ ∃ i d, Pg.info? f.type = some i ∧ i.size ≠ 0 ∧ Pg.underlying f.type = some d ∧ off + i.size = offs.getD (k + 1) total ∧ (aggDesc d = true → i.size ≠ 1)
 | [], [], _, _, _, h => by simp at h
 | o :: os, f :: fs, k, off, h, hk => by
  simp only [fieldsOk, Bool.and_eq_true, decide_eq_true_eq] at h
  obtain ⟨⟨h1, h2⟩, h3⟩ := h
  cases k with
  | zero =>
   simp only [List.getElem?_cons_zero, Option.some.injEq] at hk
   subst hk
   cases hi : Pg.info? f.type with
   | none => simp [hi] at h2
   | some i =>
    cases hd : Pg.underlying f.type with
    | none => simp [hi, hd] at h2
    | some d =>
     simp only [hi, hd, Bool.and_eq_true, decide_eq_true_eq, Bool.or_eq_true, Bool.not_eq_true'] at h2
     refine ⟨f, rfl, h1, i, d, hi, h2.1.1, hd, ?_, fun ha => ?_⟩
     ·rw [h2.1.2]
      cases os <;> rfl
     ·rcases h2.2 with h4 | h4
      ·rw [ha] at h4; cases h4
      ·exact h4
  | succ k =>
   obtain ⟨f', e1, e2, i, d, e3, e4, e5, e6, e7⟩ := fieldsOk_at h3 (by simpa using hk)
   exact ⟨f', by simpa using e1, e2, i, d, e3, e4, e5, by simpa using e6, e7⟩
 | [], _ :: _, _, _, h, _ | _ :: _, [], _, _, h, _ => by simp [fieldsOk] at h
theorem goodAddr_ptr {c : Cf} {p : P} {va : Value} (h : goodAddr c.rt p = true) (hp : c.P1 p va) : ∃ ad, va = .pointer (some ad) := by
 cases p with
 | addr id j st n =>
  obtain ⟨r, hr, hh⟩ := hp
  cases st with
  | nil => obtain ⟨_, b, _, rfl⟩ := hh; exact ⟨_, rfl⟩
  | cons q st =>
   obtain ⟨x, rv, h1, h2, h3, h4⟩ := hh
   simp only [goodAddr] at h
   rw [cellAt_eq hr h1] at h
   simp only [Bool.and_eq_true] at h
   have h5 := h4 (Nat.eq_of_beq_eq_true h.1)
   unfold AddrOk at h5
   cases hxc : x.c with
   | mk d k => simp only [hxc] at h5; obtain ⟨b, o, _, _, rfl⟩ := h5; exact ⟨_, rfl⟩
   | any => simp only [hxc] at h5
   | al => simp only [hxc] at h5
   | lk => simp only [hxc] at h5
 | ra cs xs i j => obtain ⟨sv, b, o, _, _, _, rfl⟩ := hp; exact ⟨_, rfl⟩
 | _ => simp [goodAddr] at h
theorem push_setCell {w : World} {arr : Array Value} {E : TypeId} {o : Nat} {v : Value} : (pushW w (.cells arr E)).setCell ⟨w.heap.size, o, none⟩ v = pushW w (.cells (arr.setIfInBounds o v) E) := by
 simp only [World.setCell, pushW]
 congr 1
 apply Array.ext_getElem?
 intro i
 simp only [Array.getElem?_modify, Array.getElem?_push]
 by_cases hi : i = w.heap.size
 ·subst hi; simp
 ·simp only [if_neg hi, if_neg (Ne.symm hi)]
theorem storeCells_new {w0 : World} {E : TypeId} : ∀ {vs : List Value} {k : Nat} {arr : Array Value} {w2 : World}, arr.size = k + vs.length → (storeCells ⟨w0.heap.size, 0, none⟩ vs k).run Pg (pushW w0 (.cells arr E)) = .ok () w2 →
  w2 = pushW w0 (.cells ((arr.toList.take k ++ vs).toArray) E)
 | [], k, arr, w2, hs, h => by
  simp only [storeCells, run_pure, Result.ok.injEq] at h
  rw [← h.2]
  congr 2
  simp only [List.length_nil, Nat.add_zero] at hs
  rw [List.append_nil, List.take_of_length_le (by simp [hs])]
 | v :: vs, k, arr, w2, hs, h => by
  have h' : ((Sem.store .plain ((⟨w0.heap.size, 0, none⟩ : Addr).add k) v (Sem.pure ())).bind fun _ => storeCells ⟨w0.heap.size, 0, none⟩ vs (k + 1)).run Pg (pushW w0 (.cells arr E)) = .ok () w2 := h
  simp only [Sem.bind, add_none, Nat.zero_add] at h'
  by_cases ho : one v
  ·have hk : k < arr.size := by simp only [List.length_cons] at hs; omega
   rw [run_store (u := arr[k]) ho (by simp [World.cell?, push_new, hk]) (by simp [World.frozen?, push_new]), push_setCell] at h'
   have := storeCells_new (k := k + 1) (arr := arr.setIfInBounds k v) (by simp only [List.length_cons] at hs; simp; omega) h'
   rw [this]
   congr 3
   simp only [Array.toList_setIfInBounds]
   rw [List.take_succ_eq_append_getElem (by simp; exact hk)]
   simp [List.take_set_of_le]
  ·exfalso
   cases v <;> first | exact ho trivial | (simp [Sem.run] at h')
section
variable {cx : Cx} (ok : ∀ t, tyOk Pg t (cx.ty t) = true)
include ok
theorem ty_zero {t : Nat} (h : (cx.ty t).cells ≠ []) : ∃ i z, Pg.info? t = some i ∧ i.zero = some z ∧ z.cells.toList = (cx.ty t).cells.map zeroV := by
 cases hty : cx.ty t with
 | no => rw [hty] at h; exact absurd rfl h
 | cell s eb => obtain ⟨i, d, h1, h2, h3, ⟨z, h4, h5⟩, _⟩ := ty_cell ok hty; exact ⟨i, z, h1, h4, h5⟩
 | strct offs l => obtain ⟨i, fs, h1, h2, h3, _, ⟨z, h4, h5⟩, _⟩ := ty_strct ok hty; exact ⟨i, .agg z, h1, h4, h5⟩
theorem alloc_run {c : Cf} (hc : c.Inv) (nd : ND c.O) {t id : Nat} (hne : (cx.ty t).cells ≠ []) (hid : c.rt id = none) :
  ∃ w' O', (Instr.alloc t true (.tuple #[])).run Pg c.w = .ok (.pointer (some ⟨c.w.heap.size, 0, none⟩)) w' ∧
   To c ⟨setRt c.rt id ⟨false, zeroCells (cx.ty t).cells⟩, w', upd c.γ id (.pointer (some ⟨c.w.heap.size, 0, none⟩)), O', c.Z⟩ ∧ ND O' := by
 obtain ⟨i, z, h1, h2, h3⟩ := ty_zero ok hne
 obtain ⟨O', t1, nd1⟩ := alloc_to hc nd hid (arr := z.cells) h3 t
 refine ⟨_, O', ?_, t1, nd1⟩
 unfold Instr.alloc
 rw [run_bind, run_zeroValue h1 h2]
 simp only [newVar, newRow, newObj]
 rfl
omit ok in
theorem addr_new {c : Cf} {rt : Rt} {id b : Nat} {l : List S} {w : World} {Z : Fp} : PRep1 (setRt rt id ⟨false, zeroCells l⟩) w (upd c.γ id (.pointer (some ⟨b, 0, none⟩))) Z (.addr id 0 [] 0) (.pointer (some ⟨b, 0, none⟩)) :=
 ⟨_, setRt_self, rfl, b, by simp [upd], rfl⟩
theorem box_run {c : Cf} (hc : c.Inv) (nd : ND c.O) {t id : Nat} (hid : c.rt id = none) {p : P} {v : Value} {rt' : Rt} (hp : c.PR p v)
  (h : putCells (setRt c.rt id ⟨false, zeroCells (cx.ty t).cells⟩) (.addr id 0 [] 0) (cx.ty t).cells p.cells 0 = some rt') (hne : (cx.ty t).cells ≠ []) :
  ∃ b w' γ' O' Z', (Instr.box t v).run Pg c.w = .ok (.pointer (some ⟨b, 0, none⟩)) w' ∧ To c ⟨rt', w', γ', O', Z'⟩ ∧ ND O' ∧ PRep1 rt' w' γ' Z' (.addr id 0 [] 0) (.pointer (some ⟨b, 0, none⟩)) := by
 obtain ⟨w1, O1, e1, t1, nd1⟩ := alloc_run ok hc nd hne hid
 obtain ⟨ad, w2, O2, Z2, e2, e3, e4, e5, t2, nd2⟩ := store_run ok (c := ⟨setRt c.rt id ⟨false, zeroCells (cx.ty t).cells⟩, w1, upd c.γ id (.pointer (some ⟨c.w.heap.size, 0, none⟩)), O1, c.Z⟩) t1.inv nd1 h hne
  (va := .pointer (some ⟨c.w.heap.size, 0, none⟩)) (addr_new (c := c)) (PR_stab t1.stb hp)
 obtain rfl := (Option.some.inj (Value.pointer.inj e2)).symm
 obtain ⟨i, z, h1, h2, h3⟩ := ty_zero ok hne
 have hw1 : w1 = pushW c.w (.cells z.cells t) := by
  unfold Instr.alloc at e1
  rw [run_bind, run_zeroValue h1 h2] at e1
  simp only [newVar, newRow, newObj] at e1
  exact (Result.ok.inj e1).2.symm
 subst hw1
 have hw2 := storeCells_new (arr := z.cells) (vs := v.cells.toList) (k := 0) (by
  have : z.cells.size = (cx.ty t).cells.length := by rw [← Array.length_toList, h3]; simp
  simp [this, e3]) e4
 simp only [List.take_zero, List.nil_append, Array.toArray_toList] at hw2
 subst hw2
 refine ⟨c.w.heap.size, _, _, O2, Z2, ?_, t1.trans t2, nd2, t2.stb _ _ (addr_new (c := c))⟩
 unfold Instr.box
 simp only [newVar, newRow, newObj]
 rfl
theorem fieldAddr_run {c : Cf} {t : Nat} {offs : List Nat} {l : List S} (ht : cx.ty t = .strct offs l) {f off : Nat} (hf : offs[f]? = some off) {a q : P} {va : Value} (h : moveOn a off = some q) (ha : c.P1 a va)
  (hptr : ∃ ad, va = .pointer (some ad)) : ∃ v, (Instr.fieldAt t va f).run Pg c.w = .ok v c.w ∧ c.P1 q v := by
 obtain ⟨ad, rfl⟩ := hptr
 obtain ⟨i, fs, h1, h2, h3, h4, h5, h6⟩ := ty_strct ok ht
 obtain ⟨fd, e1, e2, j, d, e3, e4, e5, e6, e7⟩ := fieldsOk_at h6 hf
 refine ⟨shiftV (.pointer (some ad)) off, ?_, moveOn_rep h ha⟩
 unfold Instr.fieldAt
 rw [run_bind, run_underlying h2]
 have : fs[f]? = some fd := by rw [← Array.getElem?_toList]; exact e1
 simp only [this, Instr.sureAddr, run_bind, run_pure, fieldPlace]
 rw [run_sizeOf e3]
 simp only [if_neg e4, run_pure, shiftV, e2]
theorem indexAddr_row {t : Nat} {cs : SS} {eb : Nat} (ht : cx.ty t = .cell (.row cs) eb) {A : Option Addr} {n cap : Nat} {k : IntKind} {i : Int} (h0 : 0 ≤ i) (h1 : i < (n : Int)) {a : Addr} (hA : A = some a) (w : World) :
  (Instr.indexAt t (.slice A n cap) (.int k i)).run Pg w = .ok (.pointer (some (a.add (i.toNat * cs.size)))) w := by
 obtain ⟨ti, d, e1, e2, e3, e4, e5⟩ := ty_cell ok ht
 subst hA
 cases d <;> simp [descOk] at e5
 rename_i e
 cases he : Pg.info? e with
 | none => simp [he] at e5
 | some ie =>
  simp only [he, Bool.and_eq_true, decide_eq_true_eq] at e5
  unfold Instr.indexAt
  simp only [asIntOf, run_bind, run_pure, run_underlying e2]
  simp only [h0, h1, and_self, if_true, run_bind, run_sizeOf he, run_pure, e5.1.1.1]
theorem len_run {t : Nat} {v : Value} (w : World) : (∀ s, v = .string s → (∃ eb, cx.ty t = .cell .str eb) → (Builtin.len_ #[t] 0 #[v]).run Pg w = .ok (.int .i64 s.size) w) ∧
  (∀ A n cap, v = .slice A n cap → (∃ cs eb, cx.ty t = .cell (.row cs) eb) → (Builtin.len_ #[t] 0 #[v]).run Pg w = .ok (.int .i64 n) w) := by
 constructor
 ·rintro s rfl ⟨eb, ht⟩
  obtain ⟨ti, d, e1, e2, e3, e4, e5⟩ := ty_cell ok ht
  cases d <;> simp [descOk] at e5
  unfold Builtin.len_
  simp [run_bind, run_underlying e2, run_pure, goInt]
 ·rintro A n cap rfl ⟨cs, eb, ht⟩
  obtain ⟨ti, d, e1, e2, e3, e4, e5⟩ := ty_cell ok ht
  cases d <;> simp [descOk] at e5
  unfold Builtin.len_
  simp [run_bind, run_underlying e2, run_pure, goInt]
end
end Go.PV

namespace Go.PV
variable {Pg : Program} {R : Type}
theorem sliceBound_run {k : IntKind} {i : Int} {y : Nat} {code : BoundsCode} (h0 : 0 ≤ i) (h1 : i ≤ (y : Int)) (w : World) : (Instr.sliceBound (.int k i) y code).run Pg w = .ok i.toNat w := by
 unfold Instr.sliceBound
 simp [asIntOf, run_bind, run_pure, h0, h1]
def bnd (d : Int) : Option Value → Option Int → Prop
 | none, some n => n = d
 | some (.int _ m), some n => n = m
 | _, _ => False
theorem sliceBounds_run {isS : Bool} {len cap : Nat} {lo hi : Option Value} {l h : Int} (hl : bnd 0 lo (some l)) (hh : bnd len hi (some h)) (h0 : 0 ≤ l) (h1 : l ≤ h) (h2 : h ≤ (cap : Int)) (w : World) :
  (Instr.sliceBounds isS len cap lo hi none).run Pg w = .ok (l.toNat, h.toNat, cap) w := by
 unfold Instr.sliceBounds
 cases hi with
 | none =>
  simp only [bnd] at hh; subst hh
  cases lo with
  | none => simp only [bnd] at hl; subst hl; simp [run_bind, run_pure]
  | some v => cases v <;> simp only [bnd] at hl; subst hl; simp [run_bind, run_pure, sliceBound_run h0 h1 w]
 | some v =>
  cases v <;> simp only [bnd] at hh
  subst hh
  have e1 : h ≤ (cap : Int) := h2
  cases lo with
  | none => simp only [bnd] at hl; subst hl; simp [run_bind, run_pure, sliceBound_run (by omega) e1 w]
  | some v => cases v <;> simp only [bnd] at hl; subst hl; simp [run_bind, run_pure, sliceBound_run (by omega) e1 w, sliceBound_run (y := h.toNat) h0 (by omega) w]
theorem Rep.cut0 {w : World} {Z : Fp} {cs : SS} {xs : List cs.T} {A : Option Addr} {n cap : Nat} (h : Rep w Z (.row cs) 0 xs (.slice A n cap) nil') {l k : Nat} (h1 : l ≤ k) (h2 : k ≤ xs.length) :
  Rep w Z (.row cs) 0 (List.drop l (List.take k xs)) (.slice (if cap = l then A else A.map (·.add (l * cs.size))) (k - l) (cap - l)) nil' := by
 simp only [Rep] at h ⊢
 obtain ⟨A', cap', hv, hc, _, hi⟩ := h
 obtain ⟨rfl, rfl, rfl⟩ := Value.slice.inj hv
 have hlen : (List.drop l (List.take k xs)).length = k - l := by simp [Nat.min_eq_left h2]
 refine ⟨_, _, by rw [hlen], by omega, trivial, fun i hlt => ?_⟩
 rw [hlen] at hlt
 obtain ⟨a, e1, e2, e3, e4⟩ := hi (l + i) (by omega)
 subst e1
 rw [if_neg (by omega)]
 obtain ⟨ab, ao, as⟩ := a
 simp only at e2
 subst e2
 refine ⟨⟨ab, ao + l * cs.size, none⟩, by simp [add_none], rfl, e3, ?_⟩
 have e5 : (List.drop l (List.take k xs))[i]'(by rw [hlen]; exact hlt) = xs[l + i]'(by omega) := by simp
 rw [e5]
 have e6 : ao + l * cs.size + i * cs.size = ao + (l + i) * cs.size := by rw [Nat.add_mul]; omega
 rw [e6]
 exact e4
section
variable {cx : Cx} (ok : ∀ t, tyOk Pg t (cx.ty t) = true)
include ok
theorem slice_str {t : Nat} {eb : Nat} (ht : cx.ty t = .cell .str eb) {s : ByteArray} {lo hi : Option Value} {l h : Int} (hl : bnd 0 lo (some l)) (hh : bnd s.size hi (some h)) (h0 : 0 ≤ l) (h1 : l ≤ h) (h2 : h ≤ (s.size : Int)) (w : World) :
  (Instr.sliceAt t (.string s) lo hi none).run Pg w = .ok (.string (s.extract l.toNat h.toNat)) w := by
 obtain ⟨ti, d, e1, e2, e3, e4, e5⟩ := ty_cell ok ht
 cases d <;> simp [descOk] at e5
 unfold Instr.sliceAt Instr.slice
 simp only [run_bind, run_underlying e2, Option.isSome_none, Bool.false_eq_true, if_false]
 rw [sliceBounds_run hl hh h0 h1 h2]
 rfl
theorem slice_row {t : Nat} {cs : SS} {eb : Nat} (ht : cx.ty t = .cell (.row cs) eb) {A : Option Addr} {n cap : Nat} {lo hi : Option Value} {l h : Int} (hl : bnd 0 lo (some l)) (hh : bnd n hi (some h)) (h0 : 0 ≤ l) (h1 : l ≤ h) (h2 : h ≤ (cap : Int)) (w : World) :
  (Instr.sliceAt t (.slice A n cap) lo hi none).run Pg w = .ok (.slice (if cap = l.toNat then A else A.map (·.add (l.toNat * cs.size))) (h.toNat - l.toNat) (cap - l.toNat)) w := by
 obtain ⟨ti, d, e1, e2, e3, e4, e5⟩ := ty_cell ok ht
 cases d <;> simp [descOk] at e5
 rename_i e
 cases he : Pg.info? e with
 | none => simp [he] at e5
 | some ie =>
  simp only [he, Bool.and_eq_true, decide_eq_true_eq] at e5
  unfold Instr.sliceAt Instr.slice
  simp only [run_bind, run_underlying e2]
  rw [sliceBounds_run hl hh h0 h1 h2]
  simp only [run_sizeOf he, run_pure, e5.1.1.1]
theorem conv_int {src dst : Nat} {s : S} {eb eb2 : Nat} {k k2 : IntKind} {n : Int} (hs : cx.ty src = .cell s eb) (hd : cx.ty dst = .cell (.int k) eb2) (w : World) :
  (convert src dst (.int k2 n)).run Pg w = .ok (.int k (k.wrap n)) w := by
 obtain ⟨ti, d, e1, e2, e3, e4, e5⟩ := ty_cell ok hs
 obtain ⟨ti2, d2, f1, f2, f3, f4, f5⟩ := ty_cell ok hd
 cases d2 <;> simp [descOk] at f5
 subst f5
 unfold convert
 simp only [run_bind, run_underlying e2, run_underlying f2]
 cases d <;> rfl
theorem conv_str {src dst : Nat} {eb eb2 : Nat} {s : ByteArray} (hs : cx.ty src = .cell .str eb) (hd : cx.ty dst = .cell .str eb2) (w : World) :
  (convert src dst (.string s)).run Pg w = .ok (.string s) w := by
 obtain ⟨ti, d, e1, e2, e3, e4, e5⟩ := ty_cell ok hs
 obtain ⟨ti2, d2, f1, f2, f3, f4, f5⟩ := ty_cell ok hd
 cases d <;> simp [descOk] at e5
 cases d2 <;> simp [descOk] at f5
 unfold convert
 simp only [run_bind, run_underlying e2, run_underlying f2]
 rfl
omit ok in
theorem bytes_run {a : Addr} {w : World} : ∀ {xs : List Int} {k : Nat} {acc : Array Value}, (∀ i (h : i < xs.length), w.cell? (a.add (k + i)) = some (.int .u8 xs[i])) →
  (loadCellsFrom a k xs.length acc).run Pg w = .ok (acc ++ (xs.map (Value.int .u8)).toArray) w
 | [], k, acc, _ => by simp [loadCellsFrom, run_pure]
 | x :: xs, k, acc, h => by
  show ((Sem.load .plain (a.add k) Sem.pure).bind fun v => loadCellsFrom a (k + 1) xs.length (acc.push v)).run Pg w = _
  have h0 := h 0 (by simp)
  simp only [Nat.add_zero, List.getElem_cons_zero] at h0
  simp only [Sem.bind, Sem.run, h0]
  rw [bytes_run (fun i hi => by
   have := h (i + 1) (by simpa using hi)
   rw [List.getElem_cons_succ] at this
   rw [← this]
   congr 2
   omega)]
  simp
omit ok in
theorem foldl_bytes : ∀ (l : List Int) (acc : ByteArray), l.foldl (fun s n => s.push (UInt8.ofNat n.toNat)) acc = ⟨acc.data ++ (l.map fun n => UInt8.ofNat n.toNat).toArray⟩
 | [], acc => by simp
 | n :: l, acc => by
  rw [List.foldl_cons, foldl_bytes l]
  simp [ByteArray.push]
omit ok in
theorem forbytes {f : Value → ByteArray → Sem (ForInStep ByteArray)} {w : World} (hf : ∀ n s, (f (.int .u8 n) s).run Pg w = .ok (.yield (s.push (UInt8.ofNat n.toNat))) w) : ∀ (xs : List Int) (s : ByteArray),
  (forIn (xs.map (Value.int .u8)) s f).run Pg w = .ok (xs.foldl (fun s n => s.push (UInt8.ofNat n.toNat)) s) w
 | [], s => by simp [run_pure]
 | x :: xs, s => by
  rw [List.map_cons, List.forIn_cons, run_bind, hf]
  simp only [List.foldl_cons]
  exact forbytes hf xs _
theorem conv_bytes {c : Cf} {src dst : Nat} {eb eb2 : Nat} (hs : cx.ty src = .cell (.row (.one (.int .u8))) eb) (hd : cx.ty dst = .cell .str eb2) {d : Nat} {xs : List Int} {v : Value} {F : Fp} (h : Rep c.w c.Z (.row (.one (.int .u8))) d xs v F) :
  (convert src dst v).run Pg c.w = .ok (.string (numsStr xs)) c.w := by
 obtain ⟨ti, de, e1, e2, e3, e4, e5⟩ := ty_cell ok hs
 obtain ⟨ti2, d2, f1, f2, f3, f4, f5⟩ := ty_cell ok hd
 cases de <;> simp [descOk] at e5
 rename_i e
 cases d2 <;> simp [descOk] at f5
 cases he : Pg.info? e with
 | none => simp [he] at e5
 | some ie =>
  simp only [he, Bool.and_eq_true, decide_eq_true_eq] at e5
  have hu : Pg.underlying e = some (.int .u8) := by
   have := e5.2
   split at this
   ·assumption
   ·cases this
  have hsl := h
  simp only [Rep] at hsl
  obtain ⟨A, cap, rfl, _, _⟩ := hsl
  unfold convert
  simp only [run_bind, run_underlying e2, run_underlying f2, run_underlying hu]
  unfold Conv.bytesToString
  cases A with
  | none =>
   have : xs = [] := by
    cases xs with
    | nil => rfl
    | cons x xs =>
     obtain ⟨a, n, cap', Fi, g1, _⟩ := h.elem (i := 0) (by simp)
     cases g1
   subst this
   simp only [run_pure, numsStr]
   rfl
  | some a =>
   have hcells : ∀ i (hi : i < xs.length), c.w.cell? (a.add (0 + i)) = some (.int .u8 xs[i]) := fun i hi => by
    obtain ⟨a', n, cap', Fi, g1, g2, g3, _⟩ := h.elem hi
    simp only [Value.slice.injEq, Option.some.injEq] at g1
    obtain ⟨rfl, _⟩ := g1
    rw [getD_lt hi] at g3
    simp only [RepC, SS.size, Nat.mul_one] at g3
    obtain ⟨v, g4, g5⟩ := g3
    obtain ⟨rfl, _⟩ := g5
    obtain ⟨ab, ao, as⟩ := a
    simp only at g2
    subst g2
    rw [add_none, Nat.zero_add]
    exact g4
   simp only [run_bind, loadCells]
   rw [bytes_run hcells]
   simp only
   rw [← Array.forIn_toList]
   simp only [List.nil_append, Array.toList_append]
   rw [forbytes (fun n s => by simp [run_pure])]
   simp only [run_pure]
   rw [foldl_bytes]
   simp only [numsStr, ByteArray.empty, ByteArray.emptyWithCapacity]
   congr 2
   exact congrArg ByteArray.mk (by apply Array.ext'; rw [Array.toList_append]; rfl)
end
end Go.PV

namespace Go.PV
variable {Pg : Program} {R : Type}
def Pcs (w : World) (Z : Fp) (O : Own) (t : Nat) : Nat → List CV → List Value → Prop
 | _, [], [] => True
 | k, q :: l, v :: vs => Rep w Z q.s t q.x v (fun b => O b = some (.det k)) ∧ Pcs w Z O t (k + 1) l vs
 | _, _, _ => False
theorem takeCells_scalar {rt : Rt} {s : S} (hs : s.isRow = false) {ss : List S} {p : P} {ps : List P} {m : Nat} {r : List CV × Nat × Rt} (h : takeCells rt (s :: ss) (p :: ps) m = some r) :
  ∃ q x, p = .cv q ∧ q.as s = some x ∧ ∃ l1, takeCells rt ss ps m = some (l1, r.2) ∧ r.1 = ⟨s, x⟩ :: l1 := by
 have e : ∀ p, takeCells rt (s :: ss) (p :: ps) m = (match p with
   | .cv c => match c.as s with
    | some x => match takeCells rt ss ps m with
     | some (l, r) => some (⟨s, x⟩ :: l, r)
     | none => none
    | none => none
   | _ => none) := fun p => by cases s <;> first | rfl | cases hs
 rw [e] at h
 cases p <;> simp only [reduceCtorEq] at h
 rename_i q
 cases h1 : q.as s with
 | none => simp [h1] at h
 | some x =>
  cases h2 : takeCells rt ss ps m with
  | none => simp [h1, h2] at h
  | some r1 =>
   obtain ⟨l1, r1⟩ := r1
   simp only [h1, h2, Option.some.injEq] at h
   subst h
   exact ⟨q, x, rfl, h1, l1, rfl, rfl⟩
theorem takeCells_le : ∀ {ss : List S} {ps : List P} {m m' : Nat} {rt rt' : Rt} {l : List CV}, takeCells rt ss ps m = some (l, m', rt') → m' ≤ m
 | [], [], m, m', rt, rt', l, h => by simp only [takeCells, Option.some.injEq, Prod.mk.injEq] at h; omega
 | [], _ :: _, _, _, _, _, _, h => by simp [takeCells] at h
 | _ :: _, [], _, _, _, _, _, h => by simp [takeCells] at h
 | s :: ss, p :: ps, m, m', rt, rt', l, h => by
  cases s with
  | row cs =>
   simp only [takeCells] at h
   cases h1 : takeRow rt cs p with
   | none => simp [h1] at h
   | some r =>
    obtain ⟨xs, d, rt1⟩ := r
    simp only [h1] at h
    cases h2 : takeCells rt1 ss ps (min m (lift (.row cs) d)) with
    | none => simp [h2] at h
    | some q =>
     obtain ⟨l1, m1, rt2⟩ := q
     simp only [h2, Option.some.injEq, Prod.mk.injEq] at h
     have := takeCells_le h2
     omega
  | _ =>
   obtain ⟨q, x, _, _, l1, h2, _⟩ := takeCells_scalar rfl h
   exact takeCells_le h2
theorem Rep.scalar {w w' : World} {Z Z' : Fp} {s : S} {d d' : Nat} {x : s.T} {v : Value} {F : Fp} (hs : s.isRow = false) (h : Rep w Z s d x v F) : Rep w' Z' s d' x v F := by
 cases s with
 | row => cases hs
 | int => exact h
 | bool => exact h
 | str => exact h
theorem takeCells_to : ∀ {ss : List S} {ps : List P} {m m' k : Nat} {c : Cf} {rt' : Rt} {l : List CV} {vs : List Value}, c.Inv → takeCells c.rt ss ps m = some (l, m', rt') →
  (∀ b k', k ≤ k' → c.O b ≠ some (.det k')) → vs.length = ps.length → (∀ (i : Nat) p v, ps[i]? = some p → vs[i]? = some v → c.P1 p v) → ∀ {t : Nat}, t ≤ m' →
  ∃ O' Z', To c ⟨rt', c.w, c.γ, O', Z'⟩ ∧ Pcs c.w Z' O' t k l vs ∧ ∀ b k', (k' < k ∨ k + ss.length ≤ k') → (O' b = some (.det k') ↔ c.O b = some (.det k'))
 | [], [], m, m', k, c, rt', l, vs, hc, h, hk, hl, hv, t, ht => by
  simp only [takeCells, Option.some.injEq, Prod.mk.injEq] at h
  obtain ⟨rfl, rfl, rfl⟩ := h
  cases vs with
  | nil => exact ⟨c.O, c.Z, To.refl hc, trivial, fun _ _ _ => Iff.rfl⟩
  | cons => simp at hl
 | [], _ :: _, _, _, _, _, _, _, _, _, h, _, _, _, _, _ => by simp [takeCells] at h
 | _ :: _, [], _, _, _, _, _, _, _, _, h, _, _, _, _, _ => by simp [takeCells] at h
 | s :: ss, p :: ps, m, m', k, c, rt', l, vs, hc, h, hk, hl, hv, t, ht => by
  cases vs with
  | nil => simp at hl
  | cons v vs =>
  have hp : c.P1 p v := hv 0 p v rfl rfl
  cases hs : s.isRow with
  | true =>
   cases s with
   | row cs =>
    simp only [takeCells] at h
    cases h1 : takeRow c.rt cs p with
    | none => simp [h1] at h
    | some r =>
     obtain ⟨xs, d, rt1⟩ := r
     simp only [h1] at h
     cases h2 : takeCells rt1 ss ps (min m (lift (.row cs) d)) with
     | none => simp [h2] at h
     | some q =>
      obtain ⟨l1, m1, rt2⟩ := q
      simp only [h2, Option.some.injEq, Prod.mk.injEq] at h
      obtain ⟨rfl, rfl, rfl⟩ := h
      have hle := takeCells_le h2
      obtain ⟨O1, Z1, t1, p1, q1⟩ := takeRow_to hc h1 hp (k := k) fun b => hk b k (Nat.le_refl _)
      obtain ⟨O2, Z2, t2, p2, q2⟩ := piece_lift t1.inv (s := .row cs) p1 (t := t) (by omega)
      have hkk : ∀ b k', k' ≠ k → (O2 b = some (.det k') ↔ c.O b = some (.det k')) := fun b k' hne => (q2 b k' hne).trans (q1 b k' hne)
      have t12 := t1.trans t2
      obtain ⟨O3, Z3, t3, p3, q3⟩ := takeCells_to (c := ⟨rt1, c.w, c.γ, O2, Z2⟩) (k := k + 1) (vs := vs) t2.inv h2 (fun b k' hk' hb => hk b k' (by omega) ((hkk b k' (by omega)).1 hb)) (by simpa using hl)
       (fun i p' v' e1 e2 => t12.stb _ _ (hv (i + 1) p' v' (by simpa using e1) (by simpa using e2))) ht
      refine ⟨O3, Z3, t12.trans t3, ⟨?_, p3⟩, fun b k' hk' => ?_⟩
      ·have e : (fun b => O3 b = some (.det k)) = (fun b => O2 b = some (.det k)) := by
        funext b; exact propext (q3 b k (.inl (Nat.lt_succ_self k)))
       rw [e]
       exact Rep.mono p2 fun b hb => t3.ext.z b hb
      ·refine (q3 b k' ?_).trans (hkk b k' ?_)
       ·rcases hk' with h | h
        ·exact .inl (by omega)
        ·simp only [List.length_cons] at h; exact .inr (by omega)
       ·rcases hk' with h | h
        ·omega
        ·simp only [List.length_cons] at h; omega
   | int => cases hs
   | bool => cases hs
   | str => cases hs
  | false =>
   have h' := takeCells_scalar hs h
   obtain ⟨q, x, rfl, h1, l1, h2, rfl⟩ := h'
   obtain rfl := CV.as_some h1
   obtain ⟨O3, Z3, t3, p3, q3⟩ := takeCells_to (c := c) (k := k + 1) (vs := vs) hc h2 (fun b k' hk' hb => hk b k' (by omega) hb) (by simpa using hl)
    (fun i p' v' e1 e2 => hv (i + 1) p' v' (by simpa using e1) (by simpa using e2)) ht
   refine ⟨O3, Z3, t3, ⟨?_, p3⟩, fun b k' hk' => q3 b k' ?_⟩
   ·have e : (fun b => O3 b = some (.det k)) = nil' := by
     funext b
     exact eq_false fun hb => hk b k (Nat.le_refl _) ((q3 b k (.inl (Nat.lt_succ_self k))).1 hb)
    rw [e]
    exact Rep.scalar hs hp
   ·rcases hk' with h | h
    ·exact .inl (by omega)
    ·simp only [List.length_cons] at h; exact .inr (by omega)
theorem Pcs.len {w : World} {Z : Fp} {O : Own} {t : Nat} : ∀ {l : List CV} {vs : List Value} {k : Nat}, Pcs w Z O t k l vs → vs.length = l.length
 | [], [], _, _ => rfl
 | _ :: _, _ :: _, _, h => by simp only [List.length_cons, Pcs.len h.2]
 | [], _ :: _, _, h | _ :: _, [], _, h => h.elim
theorem SS.of_len : ∀ {cs : SS} {l : List CV} {x : cs.T}, cs.of l = some x → l.length = cs.size
 | .one s, [c], x, h => rfl
 | .cons s cs, c :: l, x, h => by
  simp only [SS.of] at h
  cases h1 : c.as s with
  | none => simp [h1] at h
  | some y =>
   cases h2 : cs.of l with
   | none => simp [h1, h2] at h
   | some z => simp only [List.length_cons, SS.size, SS.of_len h2]
 | .one s, [], _, h | .one s, _ :: _ :: _, _, h | .cons s cs, [], _, h => by simp [SS.of] at h
theorem Pcs.repC {w w' : World} {Z : Fp} {O : Own} {t b : Nat} (hw : ∀ b, (∃ k, O b = some (.det k)) ∨ Z b → w'.heap[b]? = w.heap[b]?) : ∀ {cs : SS} {l : List CV} {x : cs.T} {vs : List Value} {k o : Nat},
  cs.of l = some x → Pcs w Z O t k l vs → (∀ (i : Nat) v, vs[i]? = some v → w'.cell? ⟨b, o + i, none⟩ = some v) → RepC w' Z cs t x b o (fun b' => ∃ i, i < cs.size ∧ O b' = some (.det (k + i)))
 | .one s, [c], x, vs, k, o, h, hp, hv => by
  obtain rfl := CV.as_some h
  cases vs with
  | nil => exact hp.elim
  | cons v vs =>
   simp only [RepC]
   refine ⟨v, hv 0 v rfl, ?_⟩
   have e : (fun b' => ∃ i, i < SS.size (.one s) ∧ O b' = some (.det (k + i))) = (fun b' => O b' = some (.det k)) := by
    funext b'
    apply propext
    simp only [SS.size, Nat.lt_one_iff, exists_eq_left, Nat.add_zero]
   rw [e]
   exact hp.1.frame (fun _ h => h) fun b hb => hw b (hb.imp (fun h => ⟨k, h⟩) id)
 | .cons s cs, c :: l, x, vs, k, o, h, hp, hv => by
  simp only [SS.of] at h
  cases h1 : c.as s with
  | none => simp [h1] at h
  | some y =>
   cases h2 : cs.of l with
   | none => simp [h1, h2] at h
   | some z =>
    simp only [h1, h2, Option.bind_some, Option.map_some, Option.some.injEq] at h
    subst h
    obtain rfl := CV.as_some h1
    cases vs with
    | nil => exact hp.elim
    | cons v vs =>
     simp only [RepC]
     refine ⟨v, _, _, hv 0 v rfl, hp.1.frame (fun _ h => h) fun b hb => hw b (hb.imp (fun h => ⟨k, h⟩) id), Pcs.repC hw h2 hp.2 (fun i u hu => ?_), ?_, ?_⟩
     ·have := hv (i + 1) u (by simpa using hu)
      rwa [← Nat.add_assoc, Nat.add_right_comm] at this
     ·funext b'
      apply propext
      constructor
      ·rintro ⟨i, hi, h⟩
       cases i with
       | zero => exact .inl h
       | succ i => exact .inr ⟨i, by simp only [SS.size] at hi; omega, by rw [← Nat.add_assoc, Nat.add_right_comm] at h; exact h⟩
      ·rintro (h | ⟨i, hi, h⟩)
       ·exact ⟨0, Nat.succ_pos _, h⟩
       ·exact ⟨i + 1, by simp only [SS.size]; omega, by rw [← Nat.add_assoc, Nat.add_right_comm]; exact h⟩
     ·rintro b' h ⟨i, hi, h'⟩
      rw [h] at h'
      simp only [Option.some.injEq, Site.det.injEq] at h'
      omega
 | .one s, [], _, _, _, _, h, _, _ | .one s, _ :: _ :: _, _, _, _, _, h, _, _ | .cons s cs, [], _, _, _, _, h, _, _ => by simp [SS.of] at h
def ElP (w : World) (Z : Fp) (O : Own) (cs : SS) (t : Nat) : Nat → List cs.T → List (List Value) → Prop
 | _, [], [] => True
 | k, x :: xs, vs :: vss => (∃ l, cs.of l = some x ∧ Pcs w Z O t k l vs) ∧ ElP w Z O cs t (k + cs.size) xs vss
 | _, _, _ => False
theorem elems_le {cs : SS} : ∀ {pss : List (List P)} {m m' : Nat} {rt rt' : Rt} {xs : List cs.T}, elems rt cs pss m = some (xs, m', rt') → m' ≤ m
 | [], m, m', rt, rt', xs, h => by simp only [elems, Option.some.injEq, Prod.mk.injEq] at h; omega
 | ps :: pss, m, m', rt, rt', xs, h => by
  simp only [elems] at h
  cases h1 : takeCells rt cs.list ps m with
  | none => simp [h1] at h
  | some r =>
   obtain ⟨l, m1, rt1⟩ := r
   simp only [h1] at h
   cases h2 : cs.of l with
   | none => simp [h2] at h
   | some x =>
    simp only [h2] at h
    cases h3 : elems rt1 cs pss m1 with
    | none => simp [h3] at h
    | some q =>
     obtain ⟨xs1, m2, rt2⟩ := q
     simp only [h3, Option.some.injEq, Prod.mk.injEq] at h
     have := elems_le h3
     have := takeCells_le h1
     omega
theorem elems_to {cs : SS} : ∀ {pss : List (List P)} {m m' k : Nat} {c : Cf} {rt' : Rt} {xs : List cs.T} {vss : List (List Value)}, c.Inv → elems c.rt cs pss m = some (xs, m', rt') →
  (∀ b k', k ≤ k' → c.O b ≠ some (.det k')) → vss.length = pss.length → (∀ (i : Nat) ps vs, pss[i]? = some ps → vss[i]? = some vs → vs.length = ps.length ∧ ∀ (j : Nat) p v, ps[j]? = some p → vs[j]? = some v → c.P1 p v) → ∀ {t : Nat}, t ≤ m' →
  ∃ O' Z', To c ⟨rt', c.w, c.γ, O', Z'⟩ ∧ ElP c.w Z' O' cs t k xs vss ∧ ∀ b k', k' < k → (O' b = some (.det k') ↔ c.O b = some (.det k'))
 | [], m, m', k, c, rt', xs, vss, hc, h, hk, hl, hv, t, ht => by
  simp only [elems, Option.some.injEq, Prod.mk.injEq] at h
  obtain ⟨rfl, rfl, rfl⟩ := h
  cases vss with
  | nil => exact ⟨c.O, c.Z, To.refl hc, trivial, fun _ _ _ => Iff.rfl⟩
  | cons => simp at hl
 | ps :: pss, m, m', k, c, rt', xs, vss, hc, h, hk, hl, hv, t, ht => by
  cases vss with
  | nil => simp at hl
  | cons vs vss =>
  simp only [elems] at h
  cases h1 : takeCells c.rt cs.list ps m with
  | none => simp [h1] at h
  | some r =>
   obtain ⟨l, m1, rt1⟩ := r
   simp only [h1] at h
   cases h2 : cs.of l with
   | none => simp [h2] at h
   | some x =>
    simp only [h2] at h
    cases h3 : elems rt1 cs pss m1 with
    | none => simp [h3] at h
    | some q =>
     obtain ⟨xs1, m2, rt2⟩ := q
     simp only [h3, Option.some.injEq, Prod.mk.injEq] at h
     obtain ⟨rfl, rfl, rfl⟩ := h
     have hle := elems_le h3
     have h0 := hv 0 ps vs rfl rfl
     obtain ⟨O1, Z1, t1, p1, q1⟩ := takeCells_to hc h1 (k := k) (vs := vs) hk h0.1 h0.2 (t := t) (by omega)
     rw [SS.list_length] at q1
     obtain ⟨O2, Z2, t2, p2, q2⟩ := elems_to (c := ⟨rt1, c.w, c.γ, O1, Z1⟩) (k := k + cs.size) (vss := vss) t1.inv h3 (fun b k' hk' hb => hk b k' (by omega) ((q1 b k' (.inr hk')).1 hb)) (by simpa using hl)
      (fun i ps' vs' e1 e2 => by
       obtain ⟨g1, g2⟩ := hv (i + 1) ps' vs' (by simpa using e1) (by simpa using e2)
       exact ⟨g1, fun j p v e3 e4 => t1.stb _ _ (g2 j p v e3 e4)⟩) ht
     refine ⟨O2, Z2, t1.trans t2, ⟨⟨l, h2, ?_⟩, p2⟩, fun b k' hk' => (q2 b k' (by omega)).trans (q1 b k' (.inl hk'))⟩
     have keep : ∀ {l : List CV} {vs : List Value} {j : Nat}, j + l.length ≤ k + cs.size → Pcs c.w Z1 O1 t j l vs → Pcs c.w Z2 O2 t j l vs := by
      intro l
      induction l with
      | nil => intro vs j _ hp; cases vs <;> exact hp
      | cons q l ih =>
       intro vs j hj hp
       cases vs with
       | nil => exact hp.elim
       | cons v vs =>
        simp only [List.length_cons] at hj
        refine ⟨?_, ih (by omega) hp.2⟩
        have e : (fun b => O2 b = some (.det j)) = (fun b => O1 b = some (.det j)) := by
         funext b; exact propext (q2 b j (by omega))
        rw [e]
        exact hp.1.mono fun b hb => t2.ext.z b hb
     exact keep (by rw [SS.of_len h2]; omega) p1
theorem ElP.elem {w w' : World} {Z : Fp} {O : Own} {cs : SS} {t b : Nat} (hw : ∀ b, (∃ k, O b = some (.det k)) ∨ Z b → w'.heap[b]? = w.heap[b]?) : ∀ {xs : List cs.T} {vss : List (List Value)} {k o : Nat},
  ElP w Z O cs t k xs vss → (∀ (i : Nat) v, vss.flatten[i]? = some v → w'.cell? ⟨b, o + i, none⟩ = some v) →
  ∀ i (h : i < xs.length), RepC w' Z cs t xs[i] b (o + i * cs.size) (fun b' => ∃ j, j < cs.size ∧ O b' = some (.det (k + i * cs.size + j)))
 | [], _, _, _, _, _, i, h => by simp at h
 | x :: xs, [], _, _, h, _, _, _ => h.elim
 | x :: xs, vs :: vss, k, o, h, hv, i, hi => by
  obtain ⟨⟨l, h1, h2⟩, h3⟩ := h
  have hlen : vs.length = cs.size := h2.len.trans (SS.of_len h1)
  cases i with
  | zero =>
   have := Pcs.repC (w' := w') (b := b) (o := o) hw h1 h2 fun i v hv' => hv i v (by
    rw [List.flatten_cons, List.getElem?_append_left (List.getElem?_eq_some_iff.1 hv').1]; exact hv')
   simpa using this
  | succ i =>
   have := ElP.elem (w' := w') (b := b) (o := o + cs.size) hw h3 (fun i v hv' => by
    have := hv (cs.size + i) v (by rw [List.flatten_cons, List.getElem?_append_right (by omega), hlen, Nat.add_sub_cancel_left]; exact hv')
    rwa [← Nat.add_assoc] at this) i (by simpa using hi)
   have e1 : o + cs.size + i * cs.size = o + (i + 1) * cs.size := by rw [Nat.add_mul]; omega
   have e2 : k + cs.size + i * cs.size = k + (i + 1) * cs.size := by rw [Nat.add_mul]; omega
   rw [e1, e2] at this
   exact this
theorem ElP.apart {O : Own} {n k i j : Nat} (hij : i ≠ j) (b : Nat) : (∃ a, a < n ∧ O b = some (Site.det (k + i * n + a))) → ¬ ∃ a, a < n ∧ O b = some (Site.det (k + j * n + a)) := by
 rintro ⟨a, ha, h⟩ ⟨a', ha', h'⟩
 rw [h] at h'
 simp only [Option.some.injEq, Site.det.injEq] at h'
 exact hij (lin ha' ha (show i * n + a = j * n + a' by omega))
theorem newRow_to {c0 c : Cf} (t0 : To c0 c) {id : Nat} (hid : c.rt id = none) {cs : SS} {d : Nat} {xs : List cs.T} {arr : Array Value} {E : TypeId} {fz : Nat × Nat} {cap : Nat} (G : Nat → Fp)
  (hc1 : xs.length ≤ cap) (hc2 : cap * cs.size ≤ arr.size) (hfz : free fz arr.size)
  (hel : ∀ i (h : i < xs.length), RepC (pushW c.w (.cells arr E fz)) c.Z cs d xs[i] c.w.heap.size (i * cs.size) (G i))
  (hG : ∀ i b, i < xs.length → G i b → ∃ k, c.O b = some (.det k)) (hdis : ∀ i j, i < xs.length → j < xs.length → i ≠ j → ∀ b, G i b → ¬ G j b) :
  ∃ O' γ', To c0 ⟨setRt c.rt id ⟨true, [⟨0, 0, .mk (d + 1) ⟨.row cs, xs⟩⟩]⟩, pushW c.w (.cells arr E fz), γ', O', c.Z⟩ ∧ ND O' ∧
   PRep1 (setRt c.rt id ⟨true, [⟨0, 0, .mk (d + 1) ⟨.row cs, xs⟩⟩]⟩) (pushW c.w (.cells arr E fz)) γ' c.Z (.ref id 0 [] none 0) (.slice (some ⟨c.w.heap.size, 0, none⟩) xs.length cap) := by
 have t1 := newDet_to t0.inv (.cells arr E fz) 0
 have hb : ∀ b k, c.O b = some (.det k) → b < c.w.heap.size := fun b k h => t0.inv.os b _ h
 obtain ⟨O1, t2, q2, p2⟩ := row_to (t0.trans t1) (id := id) hid (cs := cs) (d := d + 1) (xs := xs) (v := .slice (some ⟨c.w.heap.size, 0, none⟩) xs.length cap)
  (F := fun b' => b' = c.w.heap.size ∨ ∃ i, i < xs.length ∧ G i b') (fun b hb' => by
   rcases hb' with rfl | ⟨i, hi, hg⟩
   ·exact ⟨0, by simp [withDet]⟩
   ·obtain ⟨k, hk⟩ := hG i b hi hg
    have := hb b k hk
    exact ⟨k, by simp only [withDet]; rw [if_neg (by omega)]; exact hk⟩) (by
   simp only [Rep]
   refine ⟨_, _, rfl, hc1, .inr ⟨c.w.heap.size, arr, E, fz, G, rfl, push_new, hc2, hfz, hel, rfl, fun i hi hg => ?_, hdis⟩⟩
   obtain ⟨k, hk⟩ := hG i _ hi hg
   exact Nat.lt_irrefl _ (hb _ k hk))
 obtain ⟨O2, t3, nd⟩ := drop_to t2.inv
 exact ⟨O2, _, t2.trans t3, nd, t3.stb _ _ p2⟩
theorem heap_to {c : Cf} (hc : c.Inv) {w' : World} (h : w'.heap = c.w.heap) (he : SameEnv c.w w') : To c { c with w := w' } :=
 To.world hc ⟨by rw [h]; exact Nat.le_refl _, fun b _ => by rw [h]⟩ (fun b _ _ => by rw [h]) he
theorem choose_cap {need old : Nat} {E : TypeId} (w : World) : ∃ n w', (choose (.appendCap need old E)).run Pg w = .ok n w' ∧ w'.heap = w.heap ∧ need ≤ n ∧ SameEnv w w' := by
 refine ⟨_, _, rfl, rfl, ?_, rfl, rfl, rfl⟩
 simp only [Question.cut]
 omega
end Go.PV

namespace Go.PV
variable {Pg : Program} {R : Type}
theorem wrap_i64 {n : Int} (h0 : 0 ≤ n) (h1 : n ≤ 140737488355328) : IntKind.i64.wrap n = n := by
 unfold IntKind.wrap
 simp only [IntKind.bits, IntKind.signed, Bool.true_and]
 have : n % (2 ^ 64 : Int) = n := by omega
 simp only [this]
 rw [if_neg (by simp; omega)]
theorem run_newRow {e : TypeId} {cells : Array Value} {w : World} : (newRow e cells).run Pg w = .ok ⟨w.heap.size, 0, none⟩ (pushW w (.cells cells e)) := rfl
theorem Post.made {c : Cf} {r : R} {K : P → Option Rt → Option R} {p : P} {rt' : Rt} {w' : World} {γ' : Nat → Value} {O' : Own} {Z' : Fp} {v : Value} (h : K p (some rt') = some r) (t : To c ⟨rt', w', γ', O', Z'⟩) (nd : ND O')
  (hp : PRep rt' w' γ' Z' p v) : Post c r K v w' :=
 ⟨p, some rt', ⟨rt', w', γ', O', Z'⟩, h, rfl, (fun _ h => Option.some.inj h), (fun h => by cases h), t, nd, hp⟩
theorem newRoot_some {rt rt' : Rt} {id : Nat} {r : Root} (h : newRoot rt id r = some rt') : rt id = none ∧ rt' = setRt rt id r := by
 unfold newRoot at h
 cases h1 : rt id with
 | none => rw [h1] at h; exact ⟨rfl, (Option.some.inj h).symm⟩
 | some q => rw [h1] at h; cases h
theorem RepC.move {w w' : World} {Z Z' : Fp} (hz : ∀ b, Z b → Z' b) {b' : Nat} : ∀ {cs : SS} {d : Nat} {x : cs.T} {b o o' : Nat} {F : Fp}, RepC w Z cs d x b o F →
  (∀ i v, i < cs.size → w.cell? ⟨b, o + i, none⟩ = some v → w'.cell? ⟨b', o' + i, none⟩ = some v) → (∀ b, F b ∨ Z b → w'.heap[b]? = w.heap[b]?) → RepC w' Z' cs d x b' o' F
 | .one s, d, x, b, o, o', F, h, hb, hw => by
  simp only [RepC] at h ⊢
  obtain ⟨v, h1, h2⟩ := h
  exact ⟨v, hb 0 v Nat.one_pos h1, h2.frame hz hw⟩
 | .cons s cs, d, x, b, o, o', F, h, hb, hw => by
  simp only [RepC] at h ⊢
  obtain ⟨v, F1, F2, h1, h2, h3, h4, h5⟩ := h
  subst h4
  refine ⟨v, F1, F2, hb 0 v (Nat.succ_pos _) h1, h2.frame hz (fun b' h => hw b' (h.imp .inl id)), RepC.move hz h3 (fun i v hi hc => ?_) (fun b' h => hw b' (h.imp .inr id)), rfl, h5⟩
  rw [Nat.add_assoc, Nat.add_comm 1 i] at hc
  have := hb (i + 1) v (by simp only [SS.size]; omega) hc
  rwa [Nat.add_assoc, Nat.add_comm 1 i]
def byteArr (s : ByteArray) (n : Nat) : Array Value := (s.data.map fun b => .int .u8 b.toNat) ++ Array.replicate (n - s.size) (.int .u8 0)
theorem byteArr_size {s : ByteArray} {n : Nat} (h : s.size ≤ n) : (byteArr s n).size = n := by
 unfold byteArr
 simp only [Array.size_append, Array.size_map, Array.size_replicate]
 have : s.data.size = s.size := rfl
 omega
theorem byteArr_at {s : ByteArray} {n i : Nat} (h : i < s.data.size) (h' : i < (strNums s).length) : (byteArr s n)[i]? = some (.int .u8 (strNums s)[i]) := by
 unfold byteArr
 rw [Array.getElem?_append_left (by simpa using h)]
 rw [Array.getElem?_map, Array.getElem?_eq_getElem h]
 simp [strNums]
section
variable {cx : Cx} (ok : ∀ t, tyOk Pg t (cx.ty t) = true)
include ok
theorem ty_row {t : Nat} {cs : SS} {eb : Nat} (ht : cx.ty t = .cell (.row cs) eb) : ∃ e ie z, Pg.underlying t = some (.slice e) ∧ Pg.info? e = some ie ∧ ie.size = cs.size ∧ ie.bytes = eb ∧ eb ≠ 0 ∧ ie.zero = some z ∧ z.cells.toList = cs.list.map zeroV ∧
  (cs = .one (.int .u8) → Pg.underlying e = some (.int .u8)) := by
 obtain ⟨ti, d, e1, e2, e3, e4, e5⟩ := ty_cell ok ht
 cases d <;> simp [descOk] at e5
 rename_i e
 cases he : Pg.info? e with
 | none => simp [he] at e5
 | some ie =>
  simp only [he, Bool.and_eq_true, decide_eq_true_eq, Bool.not_eq_true', decide_eq_false_iff_not] at e5
  obtain ⟨⟨⟨⟨g1, g2⟩, g3⟩, g4⟩, g5⟩ := e5
  cases hz : ie.zero with
  | none => simp [hz] at g4
  | some z =>
   rw [hz] at g4
   refine ⟨e, ie, z, e2, he, g1, g2, by omega, hz, zerosOk_eq g4, fun hcs => ?_⟩
   subst hcs
   simp only at g5
   split at g5
   ·assumption
   ·cases g5
theorem makeSlice_run {c : Cf} (hc : c.Inv) {t id : Nat} {cs : SS} {eb : Nat} (ht : cx.ty t = .cell (.row cs) eb) {k k2 : IntKind} {n m : Int} (h0 : 0 ≤ n) (h1 : n ≤ m) (h2 : m * eb ≤ 140737488355328) {rt' : Rt}
  (h : newRoot c.rt id ⟨true, [⟨0, 0, .mk full ⟨.row cs, List.replicate n.toNat cs.d⟩⟩]⟩ = some rt') :
  ∃ v w' γ' O', (Instr.makeSlice t (.int k n) (.int k2 m)).run Pg c.w = .ok v w' ∧ To c ⟨rt', w', γ', O', c.Z⟩ ∧ ND O' ∧ PRep1 rt' w' γ' c.Z (.ref id 0 [] none 0) v := by
 obtain ⟨hid, rfl⟩ := newRoot_some h
 obtain ⟨e, ie, z, e2, he, hsz, hb, hb0, hz, hzl, _⟩ := ty_row ok ht
 have hm0 : 0 ≤ m := Int.le_trans h0 h1
 have hm1 : m ≤ 140737488355328 := by
  have : m * 1 ≤ m * (eb : Int) := Int.mul_le_mul_of_nonneg_left (by omega) hm0
  omega
 have hcs := SS.size_pos cs
 have hzs : z.cells.size = cs.size := by rw [← Array.length_toList, hzl, List.length_map, SS.list_length]
 have hrun : ∃ arr : Array Value, (Instr.makeSlice t (.int k n) (.int k2 m)).run Pg c.w = .ok (.slice (some ⟨c.w.heap.size, 0, none⟩) n.toNat m.toNat) (pushW c.w (.cells arr e)) ∧ arr.size = m.toNat * cs.size ∧
   ∀ i j s, i < m.toNat → cs.list[j]? = some s → arr[i * cs.size + j]? = some (zeroV s) := by
  refine ⟨(Array.range (m.toNat * cs.size)).map (fun x => (if m.toNat * cs.size = 0 then #[] else z.cells)[x % (if m.toNat * cs.size = 0 then #[] else z.cells).size]!), ?_, by simp, fun i j s hi hj => ?_⟩
  ·unfold Instr.makeSlice
   simp only [run_bind, run_underlying e2, asInt, asIntOf, run_pure, run_typeInfo he, hb, wrap_i64 h0 (Int.le_trans h1 hm1), wrap_i64 hm0 hm1]
   have hlarge : ¬ (eb : Int) * m > 2 ^ 48 := by rw [Int.mul_comm]; omega
   have c1 : (((decide (m < 0) || decide ((eb : Int) * m > 2 ^ 48)) || decide (n < 0)) || decide (n > m)) = false := by
    simp only [Bool.or_eq_false_iff, decide_eq_false_iff_not]
    exact ⟨⟨⟨by omega, hlarge⟩, by omega⟩, by omega⟩
   simp only [c1, Bool.false_eq_true, if_false]
   have hroom : ∀ w : World, (askRoom (m.toNat * eb)).run Pg w = .ok () w := fun w => by
    unfold askRoom
    split <;> rfl
   simp only [run_bind, hroom, run_sizeOf he, hsz]
   by_cases hn : m.toNat * cs.size = 0
   ·simp only [hn, if_true]
    rfl
   ·simp only [if_neg hn, run_bind, run_zeroValue he hz, run_pure]
    rfl
  ·have hj' : j < cs.size := by rw [← SS.list_length]; exact (List.getElem?_eq_some_iff.1 hj).1
   have hlt : i * cs.size + j < m.toNat * cs.size := by
    have : (i + 1) * cs.size ≤ m.toNat * cs.size := Nat.mul_le_mul_right _ hi
    rw [Nat.add_mul] at this
    omega
   rw [if_neg (by omega)]
   simp only [Array.getElem?_map, Array.getElem?_range, if_pos hlt, Option.map_some]
   rw [hzs, Nat.mul_comm, Nat.mul_add_mod, Nat.mod_eq_of_lt hj']
   have : z.cells[j]? = some (zeroV s) := by rw [← Array.getElem?_toList, hzl, List.getElem?_map, hj]; rfl
   rw [Array.getElem!_eq_getD, Array.getD_eq_getD_getElem?, this]
   rfl
 obtain ⟨arr, hr, hs, hz⟩ := hrun
 obtain ⟨O', γ', t1, nd1, p1⟩ := newRow_to (To.refl hc) hid (cs := cs) (d := 8) (xs := List.replicate n.toNat cs.d) (arr := arr) (E := e) (fz := (0, 0)) (cap := m.toNat) (fun _ => nil') (by simp; omega) (by rw [hs]; exact Nat.le_refl _)
  (fun i _ h => by omega) (fun i hi => by
   have hi' : i < n.toNat := by simpa using hi
   rw [List.getElem_replicate]
   refine RepC.zero fun j s hj => ?_
   simp only [World.cell?, push_new]
   simpa using hz i j s (by omega) hj) (fun _ _ _ h => h.elim) (fun _ _ _ _ _ _ h => h.elim)
 rw [List.length_replicate] at p1
 exact ⟨_, _, γ', O', hr, t1, nd1, p1⟩
theorem toBytes_run {c : Cf} (hc : c.Inv) {src dst id : Nat} {eb eb2 : Nat} (hs : cx.ty src = .cell .str eb) (hd : cx.ty dst = .cell (.row (.one (.int .u8))) eb2) {s : ByteArray} {rt' : Rt}
  (h : newRoot c.rt id ⟨true, [⟨0, 0, .mk full ⟨.row (.one (.int .u8)), strNums s⟩⟩]⟩ = some rt') :
  ∃ v w' γ' O', (convert src dst (.string s)).run Pg c.w = .ok v w' ∧ To c ⟨rt', w', γ', O', c.Z⟩ ∧ ND O' ∧ PRep1 rt' w' γ' c.Z (.ref id 0 [] none 0) v := by
 obtain ⟨hid, rfl⟩ := newRoot_some h
 obtain ⟨ti, de, e1, e2, e3, e4, e5⟩ := ty_cell ok hs
 cases de <;> simp [descOk] at e5
 obtain ⟨e, ie, z, f2, he, hsz, hb, hb0, hz, hzl, hu⟩ := ty_row ok hd
 have hu := hu rfl
 obtain ⟨cap, w1, g1, g2, g3, g4⟩ := choose_cap (Pg := Pg) (need := s.size) (old := 0) (E := e) c.w
 have hsize := byteArr_size g3
 have hrun : (convert src dst (.string s)).run Pg c.w = .ok (.slice (some ⟨w1.heap.size, 0, none⟩) s.size cap) (pushW w1 (.cells (byteArr s cap) e (cap, cap + 1))) := by
  unfold convert
  simp only [run_bind, run_underlying e2, run_underlying f2, run_underlying hu]
  unfold Conv.stringToBytes
  simp only [run_bind]
  rw [g1]
  simp only [run_newRow]
  have hfz : ∀ w : World, w = pushW w1 (.cells (byteArr s cap) e) → (markStringish ⟨w1.heap.size, 0, none⟩).run Pg w = .ok () (pushW w1 (.cells (byteArr s cap) e (cap, cap + 1))) := by
   rintro w rfl
   unfold markStringish shape freeze
   simp only [run_bind, Sem.run, World.shape?, push_new, hsize, World.freeze, Nat.add_one_ne_zero, if_false]
   congr 1
   simp only [pushW]
   congr 1
   apply Array.ext_getElem?
   intro i
   simp only [Array.getElem?_modify, Array.getElem?_push]
   by_cases hi : i = w1.heap.size
   ·subst hi; simp
   ·simp [hi, Ne.symm hi]
  rw [show (Array.map (fun (b : UInt8) => Value.int .u8 (b.toNat : Int)) s.data ++ Array.replicate (cap - s.size) (Value.int .u8 0)) = byteArr s cap from rfl, hfz _ rfl]
  rfl
 have t0 := heap_to hc g2 g4
 have hlen : (strNums s).length = s.size := by simp [strNums]
 obtain ⟨O', γ', t1, nd1, p1⟩ := newRow_to t0 (id := id) hid (cs := .one (.int .u8)) (d := 8) (xs := strNums s) (arr := byteArr s cap) (E := e) (fz := (cap, cap + 1)) (cap := cap) (fun _ => nil') (by rw [hlen]; exact g3) (by rw [hsize]; simp [SS.size])
  (fun i hi h => by rw [hsize] at hi; simp only at h; omega) (fun i hi => by
   simp only [RepC, SS.size, Nat.mul_one]
   refine ⟨.int .u8 (strNums s)[i], ?_, rfl, rfl⟩
   simp only [World.cell?, push_new]
   have hi2 : i < s.data.size := by rw [hlen] at hi; exact hi
   have := byteArr_at (n := cap) hi2 hi
   simpa using this) (fun _ _ _ h => h.elim) (fun _ _ _ _ _ _ h => h.elim)
 rw [hlen] at p1
 exact ⟨_, _, γ', O', hrun, t1, nd1, p1⟩
end
end Go.PV
