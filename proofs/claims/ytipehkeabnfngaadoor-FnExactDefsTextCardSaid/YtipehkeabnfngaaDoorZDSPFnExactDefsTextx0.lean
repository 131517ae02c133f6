import Derived.Test.YtipehkeabnfngaaDoorProg
import Derived.Below
import Derived.Deep.Draws
import Derived.Deep.AppendLies
import Derived.Maps.AppendAt
import Derived.OwnWalk
import Derived.Laws.BytesArg
import Derived.Laws.MakeOwn
import Derived.Laws.OwnMore
import Derived.Deep.OwnRows
import Derived.Tactics
import Derived.Lib.ConvBytes
import Derived.Laws.Slices
import Derived.WalkKit
import Derived.KernelRfl
import Derived.RowKit3
import Derived.Deep.LoopGhost
import Derived.Deep.QuietTactic
import Derived.BigQuiet
import Derived.WideLaws
import Derived.Deep.DeepCutAuto
import Derived.Deep.CutBlock
import Derived.Deep.RegionHeld3
import Derived.Laws.Rows
import Derived.Lib.AppendStr
import Derived.ArgAppend
import Derived.Laws.IdiomCopy
import Derived.OrdersHeld
import Derived.Laws.BitsLemmas
import Derived.RowKit
import Derived.Test.YtipehkeabnfngaaDoorZDSWWords
import Derived.Test.YtipehkeabnfngaaDoorZDSWLast
import Derived.Test.YtipehkeabnfngaaDoorZDSWTab
import Derived.Test.YtipehkeabnfngaaDoorZDSWFour
import Derived.Test.YtipehkeabnfngaaDoorZDSWQPut
import Derived.Test.YtipehkeabnfngaaDoorZDSWApart
import Derived.Test.YtipehkeabnfngaaDoorZDSWArr
import Derived.Test.YtipehkeabnfngaaDoorZDSWZeros
import Derived.Test.YtipehkeabnfngaaDoorZDSWFoot
import Derived.Test.YtipehkeabnfngaaDoorZDSWKept
import Derived.Test.YtipehkeabnfngaaDoorZDSWShare
import Derived.Test.YtipehkeabnfngaaDoorZDSWN
import Derived.Test.YtipehkeabnfngaaDoorZDSWFootNe
import Derived.Test.YtipehkeabnfngaaDoorZDSWAt
import Derived.Test.YtipehkeabnfngaaDoorZDSWEqStruct
import Derived.Test.YtipehkeabnfngaaDoorZDSWRepsOne
import Derived.Test.YtipehkeabnfngaaDoorZDSWInv
import Derived.Test.YtipehkeabnfngaaDoorZDSWInvWords
import Derived.Test.YtipehkeabnfngaaDoorZDSWGuard
import Derived.Test.YtipehkeabnfngaaDoorZDSWNEv
import Derived.Test.YtipehkeabnfngaaDoorZDSWMore
import Derived.Test.YtipehkeabnfngaaDoorZDSXtra
namespace Go.Proofs.YtipehkeabnfngaaDoor.PFnExactDefsText
open Go.RowKit Go.Proofs.YtipehkeabnfngaaDoorW.PrintWords Go.Proofs.YtipehkeabnfngaaDoorW.PrintLast Go.Proofs.YtipehkeabnfngaaDoorW.PrintMore Go.Proofs.YtipehkeabnfngaaDoor.Xtra
attribute [local go_sem] max2_int min2_int max_two min_two max_three min_three max_four min_four str_leq str_gtr str_geq setCell_drewN cell_set2 cell_set3   -- for this text's walks alone
set_option linter.unusedVariables false
set_option linter.unusedSimpArgs false
def errW : Option Int → Value
 | none=>.nilIface
 | some c=>.iface 0 (.int .i64 c)
theorem errW_none : errW none = .nilIface:=rfl
theorem errW_some (c : Int) : errW (some c) = .iface 0 (.int .i64 c):=rfl
theorem info9 : (Tryd.prog.info? 9).map (fun i=>(i.zero,i.size,i.bytes)) = some (some (.string ⟨#[]⟩),1,16):=by kernel_rfl
theorem info35 : (Tryd.prog.info? 35).map (fun i=>(i.zero,i.size,i.bytes)) = some (some (.agg #[(.string ⟨#[]⟩),(.slice none 0 0),(.slice none 0 0),(.slice none 0 0)]),4,88):=by kernel_rfl
theorem info69 : (Tryd.prog.info? 69).map (fun i=>(i.zero,i.size,i.bytes)) = some (some (.agg #[(.string ⟨#[]⟩),(.bool false),(.slice none 0 0)]),3,48):=by kernel_rfl
theorem info82 : (Tryd.prog.info? 82).map (fun i=>(i.zero,i.size,i.bytes)) = some (some (.agg #[(.string ⟨#[]⟩),(.int .i64 0),(.bool false)]),3,32):=by kernel_rfl
theorem info85 : (Tryd.prog.info? 85).map (fun i=>(i.zero,i.size,i.bytes)) = some (some (.agg #[(.int .i64 0),(.bool false)]),2,16):=by kernel_rfl
structure S131 where
 f0 : ByteArray
 f1 : Int
 f2 : Bool
def z131 : S131:=⟨(⟨#[]⟩ : ByteArray),(0 : Int),false⟩
def k131 : Kd S131:=Kd.iso (Kd.pair Kd.string (Kd.pair (Kd.int .i64) Kd.bool)) (fun x : S131=>(x.f0,x.f1,x.f2))
theorem k131_open {w : World}{x : S131}{cs : List Value} (h : k131.K w x cs) : cs = [.string x.f0,.int .i64 x.f1,.bool x.f2]:=by
 obtain ⟨_,_,rfl,rfl,⟨_,_,rfl,rfl,rfl⟩⟩:=h
 exact rfl
def rd_T131 (xs : List S131) (i : Int) : S131:=xs.getD i.toNat z131
theorem at_T131 {w : World}{A : Option Addr}{n : Nat}{xs : List S131} (h : Kd.C k131 w A n xs) (i : Int) (h0 : 0 ≤ i) (h1 : i < n) : ∃ ad , A = some ad ∧ w.cell? (ad.add (i.toNat * 3)) = some (.string (rd_T131 xs i).f0) ∧ w.cell? ⟨(ad.add (i.toNat * 3)).block,(ad.add (i.toNat * 3)).off + 1,none⟩ = some (.int .i64 (rd_T131 xs i).f1) ∧ w.cell? ⟨(ad.add (i.toNat * 3)).block,(ad.add (i.toNat * 3)).off + 2,none⟩ = some (.bool (rd_T131 xs i).f2):=by
 obtain ⟨ad,c,e,_,hK,hc0⟩:=Kd.C_get h z131 i h0 h1
 have hc : ∀ j u,c[j]? = some u → w.cell? (ad.add (i.toNat * 3 + j)) = some u:=hc0
 obtain rfl:=k131_open hK
 exact ⟨ad,e,hc 0 _ rfl,by rw [← add_field _ _ 1 (by omega)];exact hc 1 _ rfl,by rw [← add_field _ _ 2 (by omega)];exact hc 2 _ rfl⟩
structure S137 where
 f0 : Int
 f1 : Bool
def z137 : S137:=⟨(0 : Int),false⟩
def k137 : Kd S137:=Kd.iso (Kd.pair (Kd.int .i64) Kd.bool) (fun x : S137=>(x.f0,x.f1))
theorem k137_open {w : World}{x : S137}{cs : List Value} (h : k137.K w x cs) : cs = [.int .i64 x.f0,.bool x.f1]:=by
 obtain ⟨_,_,rfl,rfl,rfl⟩:=h
 exact rfl
def rd_T137 (xs : List S137) (i : Int) : S137:=xs.getD i.toNat z137
theorem at_T137 {w : World}{A : Option Addr}{n : Nat}{xs : List S137} (h : Kd.C k137 w A n xs) (i : Int) (h0 : 0 ≤ i) (h1 : i < n) : ∃ ad , A = some ad ∧ w.cell? (ad.add (i.toNat * 2)) = some (.int .i64 (rd_T137 xs i).f0) ∧ w.cell? ⟨(ad.add (i.toNat * 2)).block,(ad.add (i.toNat * 2)).off + 1,none⟩ = some (.bool (rd_T137 xs i).f1):=by
 obtain ⟨ad,c,e,_,hK,hc0⟩:=Kd.C_get h z137 i h0 h1
 have hc : ∀ j u,c[j]? = some u → w.cell? (ad.add (i.toNat * 2 + j)) = some u:=hc0
 obtain rfl:=k137_open hK
 exact ⟨ad,e,hc 0 _ rfl,by rw [← add_field _ _ 1 (by omega)];exact hc 1 _ rfl⟩
structure S134 where
 f0 : ByteArray
 f1 : Bool
 f2 : (List S137)
def z134 : S134:=⟨(⟨#[]⟩ : ByteArray),false,([] : List S137)⟩
def k134 : Kd S134:=Kd.iso (Kd.pair Kd.string (Kd.pair Kd.bool (Kd.slice 137 k137))) (fun x : S134=>(x.f0,x.f1,x.f2))
theorem k134_open {w : World}{x : S134}{cs : List Value} (h : k134.K w x cs) : ∃ A2 c2,cs = [.string x.f0,.bool x.f1,.slice A2 x.f2.length c2] ∧ x.f2.length ≤ c2 ∧ k137.C w A2 x.f2.length x.f2:=by
 obtain ⟨_,_,rfl,rfl,⟨_,_,rfl,rfl,⟨A2,c2,rfl,l2,g2⟩⟩⟩:=h
 exact ⟨A2,c2,rfl,l2,g2⟩
def rd_T134 (xs : List S134) (i : Int) : S134:=xs.getD i.toNat z134
theorem at_T134 {w : World}{A : Option Addr}{n : Nat}{xs : List S134} (h : Kd.C k134 w A n xs) (i : Int) (h0 : 0 ≤ i) (h1 : i < n) : ∃ ad A2 c2,A = some ad ∧ w.cell? (ad.add (i.toNat * 3)) = some (.string (rd_T134 xs i).f0) ∧ w.cell? ⟨(ad.add (i.toNat * 3)).block,(ad.add (i.toNat * 3)).off + 1,none⟩ = some (.bool (rd_T134 xs i).f1) ∧ w.cell? ⟨(ad.add (i.toNat * 3)).block,(ad.add (i.toNat * 3)).off + 2,none⟩ = some (.slice A2 (rd_T134 xs i).f2.length c2) ∧ (rd_T134 xs i).f2.length ≤ c2 ∧ k137.C w A2 (rd_T134 xs i).f2.length (rd_T134 xs i).f2:=by
 obtain ⟨ad,c,e,_,hK,hc0⟩:=Kd.C_get h z134 i h0 h1
 have hc : ∀ j u,c[j]? = some u → w.cell? (ad.add (i.toNat * 3 + j)) = some u:=hc0
 obtain ⟨A2,c2,rfl,l2,g2⟩:=k134_open hK
 exact ⟨ad,A2,c2,e,hc 0 _ rfl,by rw [← add_field _ _ 1 (by omega)];exact hc 1 _ rfl,by rw [← add_field _ _ 2 (by omega)];exact hc 2 _ rfl,l2,g2⟩
structure S46 where
 f0 : ByteArray
 f1 : (List S131)
 f2 : (List S137)
 f3 : (List S134)
def z46 : S46:=⟨(⟨#[]⟩ : ByteArray),([] : List S131),([] : List S137),([] : List S134)⟩
def k46 : Kd S46:=Kd.iso (Kd.pair Kd.string (Kd.pair (Kd.slice 131 k131) (Kd.pair (Kd.slice 137 k137) (Kd.slice 134 k134)))) (fun x : S46=>(x.f0,x.f1,x.f2,x.f3))
theorem k46_open {w : World}{x : S46}{cs : List Value} (h : k46.K w x cs) : ∃ A1 c1 A2 c2 A3 c3,cs = [.string x.f0,.slice A1 x.f1.length c1,.slice A2 x.f2.length c2,.slice A3 x.f3.length c3] ∧ x.f1.length ≤ c1 ∧ k131.C w A1 x.f1.length x.f1 ∧ x.f2.length ≤ c2 ∧ k137.C w A2 x.f2.length x.f2 ∧ x.f3.length ≤ c3 ∧ k134.C w A3 x.f3.length x.f3:=by
 obtain ⟨_,_,rfl,rfl,⟨_,_,rfl,⟨A1,c1,rfl,l1,g1⟩,⟨_,_,rfl,⟨A2,c2,rfl,l2,g2⟩,⟨A3,c3,rfl,l3,g3⟩⟩⟩⟩:=h
 exact ⟨A1,c1,A2,c2,A3,c3,rfl,l1,g1,l2,g2,l3,g3⟩
def rd_T46 (xs : List S46) (i : Int) : S46:=xs.getD i.toNat z46
theorem at_T46 {w : World}{A : Option Addr}{n : Nat}{xs : List S46} (h : Kd.C k46 w A n xs) (i : Int) (h0 : 0 ≤ i) (h1 : i < n) : ∃ ad A1 c1 A2 c2 A3 c3,A = some ad ∧ w.cell? (ad.add (i.toNat * 4)) = some (.string (rd_T46 xs i).f0) ∧ w.cell? ⟨(ad.add (i.toNat * 4)).block,(ad.add (i.toNat * 4)).off + 1,none⟩ = some (.slice A1 (rd_T46 xs i).f1.length c1) ∧ w.cell? ⟨(ad.add (i.toNat * 4)).block,(ad.add (i.toNat * 4)).off + 2,none⟩ = some (.slice A2 (rd_T46 xs i).f2.length c2) ∧ w.cell? ⟨(ad.add (i.toNat * 4)).block,(ad.add (i.toNat * 4)).off + 3,none⟩ = some (.slice A3 (rd_T46 xs i).f3.length c3) ∧ (rd_T46 xs i).f1.length ≤ c1 ∧ k131.C w A1 (rd_T46 xs i).f1.length (rd_T46 xs i).f1 ∧ (rd_T46 xs i).f2.length ≤ c2 ∧ k137.C w A2 (rd_T46 xs i).f2.length (rd_T46 xs i).f2 ∧ (rd_T46 xs i).f3.length ≤ c3 ∧ k134.C w A3 (rd_T46 xs i).f3.length (rd_T46 xs i).f3:=by
 obtain ⟨ad,c,e,_,hK,hc0⟩:=Kd.C_get h z46 i h0 h1
 have hc : ∀ j u,c[j]? = some u → w.cell? (ad.add (i.toNat * 4 + j)) = some u:=hc0
 obtain ⟨A1,c1,A2,c2,A3,c3,rfl,l1,g1,l2,g2,l3,g3⟩:=k46_open hK
 exact ⟨ad,A1,c1,A2,c2,A3,c3,e,hc 0 _ rfl,by rw [← add_field _ _ 1 (by omega)];exact hc 1 _ rfl,by rw [← add_field _ _ 2 (by omega)];exact hc 2 _ rfl,by rw [← add_field _ _ 3 (by omega)];exact hc 3 _ rfl,l1,g1,l2,g2,l3,g3⟩
structure S82 where
 f0 : ByteArray
 f1 : Int
 f2 : Bool
def z82 : S82:=⟨(⟨#[]⟩ : ByteArray),(0 : Int),false⟩
def k82 : Kd S82:=Kd.iso (Kd.pair Kd.string (Kd.pair (Kd.int .i64) Kd.bool)) (fun x : S82=>(x.f0,x.f1,x.f2))
theorem k82_open {w : World}{x : S82}{cs : List Value} (h : k82.K w x cs) : cs = [.string x.f0,.int .i64 x.f1,.bool x.f2]:=by
 obtain ⟨_,_,rfl,rfl,⟨_,_,rfl,rfl,rfl⟩⟩:=h
 exact rfl
theorem k82_openM {w : World}{base : Nat}{ok : Nat → Prop}{x : S82}{cs : List Value} (h : k82.M w base ok x cs) : cs = [.string x.f0,.int .i64 x.f1,.bool x.f2]:=by
 obtain ⟨_,_,rfl,rfl,⟨_,_,rfl,rfl,rfl⟩⟩:=h
 exact rfl
theorem k82_mkM (w : World) (base : Nat) (ok : Nat → Prop) (x : S82)  : k82.M w base ok x [.string x.f0,.int .i64 x.f1,.bool x.f2]:=⟨[.string x.f0],[.int .i64 x.f1,.bool x.f2],rfl,rfl,⟨[.int .i64 x.f1],[.bool x.f2],rfl,rfl,rfl⟩⟩
def rd_T82 (xs : List S82) (i : Int) : S82:=xs.getD i.toNat z82
theorem at_T82 {w : World}{A : Option Addr}{n : Nat}{xs : List S82} (h : Kd.C k82 w A n xs) (i : Int) (h0 : 0 ≤ i) (h1 : i < n) : ∃ ad , A = some ad ∧ w.cell? (ad.add (i.toNat * 3)) = some (.string (rd_T82 xs i).f0) ∧ w.cell? ⟨(ad.add (i.toNat * 3)).block,(ad.add (i.toNat * 3)).off + 1,none⟩ = some (.int .i64 (rd_T82 xs i).f1) ∧ w.cell? ⟨(ad.add (i.toNat * 3)).block,(ad.add (i.toNat * 3)).off + 2,none⟩ = some (.bool (rd_T82 xs i).f2):=by
 obtain ⟨ad,c,e,_,hK,hc0⟩:=Kd.C_get h z82 i h0 h1
 have hc : ∀ j u,c[j]? = some u → w.cell? (ad.add (i.toNat * 3 + j)) = some u:=hc0
 obtain rfl:=k82_open hK
 exact ⟨ad,e,hc 0 _ rfl,by rw [← add_field _ _ 1 (by omega)];exact hc 1 _ rfl,by rw [← add_field _ _ 2 (by omega)];exact hc 2 _ rfl⟩
structure S85 where
 f0 : Int
 f1 : Bool
def z85 : S85:=⟨(0 : Int),false⟩
def k85 : Kd S85:=Kd.iso (Kd.pair (Kd.int .i64) Kd.bool) (fun x : S85=>(x.f0,x.f1))
theorem k85_open {w : World}{x : S85}{cs : List Value} (h : k85.K w x cs) : cs = [.int .i64 x.f0,.bool x.f1]:=by
 obtain ⟨_,_,rfl,rfl,rfl⟩:=h
 exact rfl
theorem k85_openM {w : World}{base : Nat}{ok : Nat → Prop}{x : S85}{cs : List Value} (h : k85.M w base ok x cs) : cs = [.int .i64 x.f0,.bool x.f1]:=by
 obtain ⟨_,_,rfl,rfl,rfl⟩:=h
 exact rfl
theorem k85_mkM (w : World) (base : Nat) (ok : Nat → Prop) (x : S85)  : k85.M w base ok x [.int .i64 x.f0,.bool x.f1]:=⟨[.int .i64 x.f0],[.bool x.f1],rfl,rfl,rfl⟩
def rd_T85 (xs : List S85) (i : Int) : S85:=xs.getD i.toNat z85
theorem at_T85 {w : World}{A : Option Addr}{n : Nat}{xs : List S85} (h : Kd.C k85 w A n xs) (i : Int) (h0 : 0 ≤ i) (h1 : i < n) : ∃ ad , A = some ad ∧ w.cell? (ad.add (i.toNat * 2)) = some (.int .i64 (rd_T85 xs i).f0) ∧ w.cell? ⟨(ad.add (i.toNat * 2)).block,(ad.add (i.toNat * 2)).off + 1,none⟩ = some (.bool (rd_T85 xs i).f1):=by
 obtain ⟨ad,c,e,_,hK,hc0⟩:=Kd.C_get h z85 i h0 h1
 have hc : ∀ j u,c[j]? = some u → w.cell? (ad.add (i.toNat * 2 + j)) = some u:=hc0
 obtain rfl:=k85_open hK
 exact ⟨ad,e,hc 0 _ rfl,by rw [← add_field _ _ 1 (by omega)];exact hc 1 _ rfl⟩
structure S69 where
 f0 : ByteArray
 f1 : Bool
 f2 : (List S85)
def z69 : S69:=⟨(⟨#[]⟩ : ByteArray),false,([] : List S85)⟩
def k69 : Kd S69:=Kd.iso (Kd.pair Kd.string (Kd.pair Kd.bool (Kd.slice 85 k85))) (fun x : S69=>(x.f0,x.f1,x.f2))
theorem k69_open {w : World}{x : S69}{cs : List Value} (h : k69.K w x cs) : ∃ A2 c2,cs = [.string x.f0,.bool x.f1,.slice A2 x.f2.length c2] ∧ x.f2.length ≤ c2 ∧ k85.C w A2 x.f2.length x.f2:=by
 obtain ⟨_,_,rfl,rfl,⟨_,_,rfl,rfl,⟨A2,c2,rfl,l2,g2⟩⟩⟩:=h
 exact ⟨A2,c2,rfl,l2,g2⟩
theorem k69_openM {w : World}{base : Nat}{ok : Nat → Prop}{x : S69}{cs : List Value} (h : k69.M w base ok x cs) : ∃ v2,cs = [.string x.f0,.bool x.f1,v2] ∧ k85.R 85 w base ok v2 x.f2:=by
 obtain ⟨_,_,rfl,rfl,⟨_,_,rfl,rfl,⟨v2,rfl,g2⟩⟩⟩:=h
 exact ⟨v2,rfl,g2⟩
theorem k69_mkM (w : World) (base : Nat) (ok : Nat → Prop) (x : S69) {v2 : Value} (g2 : k85.R 85 w base ok v2 x.f2) : k69.M w base ok x [.string x.f0,.bool x.f1,v2]:=⟨[.string x.f0],[.bool x.f1,v2],rfl,rfl,⟨[.bool x.f1],[v2],rfl,rfl,⟨v2,rfl,g2⟩⟩⟩
def rd_T69 (xs : List S69) (i : Int) : S69:=xs.getD i.toNat z69
theorem at_T69 {w : World}{A : Option Addr}{n : Nat}{xs : List S69} (h : Kd.C k69 w A n xs) (i : Int) (h0 : 0 ≤ i) (h1 : i < n) : ∃ ad A2 c2,A = some ad ∧ w.cell? (ad.add (i.toNat * 3)) = some (.string (rd_T69 xs i).f0) ∧ w.cell? ⟨(ad.add (i.toNat * 3)).block,(ad.add (i.toNat * 3)).off + 1,none⟩ = some (.bool (rd_T69 xs i).f1) ∧ w.cell? ⟨(ad.add (i.toNat * 3)).block,(ad.add (i.toNat * 3)).off + 2,none⟩ = some (.slice A2 (rd_T69 xs i).f2.length c2) ∧ (rd_T69 xs i).f2.length ≤ c2 ∧ k85.C w A2 (rd_T69 xs i).f2.length (rd_T69 xs i).f2:=by
 obtain ⟨ad,c,e,_,hK,hc0⟩:=Kd.C_get h z69 i h0 h1
 have hc : ∀ j u,c[j]? = some u → w.cell? (ad.add (i.toNat * 3 + j)) = some u:=hc0
 obtain ⟨A2,c2,rfl,l2,g2⟩:=k69_open hK
 exact ⟨ad,A2,c2,e,hc 0 _ rfl,by rw [← add_field _ _ 1 (by omega)];exact hc 1 _ rfl,by rw [← add_field _ _ 2 (by omega)];exact hc 2 _ rfl,l2,g2⟩
structure S35 where
 f0 : ByteArray
 f1 : (List S82)
 f2 : (List S85)
 f3 : (List S69)
def z35 : S35:=⟨(⟨#[]⟩ : ByteArray),([] : List S82),([] : List S85),([] : List S69)⟩
def k35 : Kd S35:=Kd.iso (Kd.pair Kd.string (Kd.pair (Kd.slice 82 k82) (Kd.pair (Kd.slice 85 k85) (Kd.slice 69 k69)))) (fun x : S35=>(x.f0,x.f1,x.f2,x.f3))
theorem k35_open {w : World}{x : S35}{cs : List Value} (h : k35.K w x cs) : ∃ A1 c1 A2 c2 A3 c3,cs = [.string x.f0,.slice A1 x.f1.length c1,.slice A2 x.f2.length c2,.slice A3 x.f3.length c3] ∧ x.f1.length ≤ c1 ∧ k82.C w A1 x.f1.length x.f1 ∧ x.f2.length ≤ c2 ∧ k85.C w A2 x.f2.length x.f2 ∧ x.f3.length ≤ c3 ∧ k69.C w A3 x.f3.length x.f3:=by
 obtain ⟨_,_,rfl,rfl,⟨_,_,rfl,⟨A1,c1,rfl,l1,g1⟩,⟨_,_,rfl,⟨A2,c2,rfl,l2,g2⟩,⟨A3,c3,rfl,l3,g3⟩⟩⟩⟩:=h
 exact ⟨A1,c1,A2,c2,A3,c3,rfl,l1,g1,l2,g2,l3,g3⟩
theorem k35_openM {w : World}{base : Nat}{ok : Nat → Prop}{x : S35}{cs : List Value} (h : k35.M w base ok x cs) : ∃ v1 v2 v3,cs = [.string x.f0,v1,v2,v3] ∧ k82.R 82 w base ok v1 x.f1 ∧ k85.R 85 w base ok v2 x.f2 ∧ k69.R 69 w base ok v3 x.f3:=by
 obtain ⟨_,_,rfl,rfl,⟨_,_,rfl,⟨v1,rfl,g1⟩,⟨_,_,rfl,⟨v2,rfl,g2⟩,⟨v3,rfl,g3⟩⟩⟩⟩:=h
 exact ⟨v1,v2,v3,rfl,g1,g2,g3⟩
theorem k35_mkM (w : World) (base : Nat) (ok : Nat → Prop) (x : S35) {v1 : Value} (g1 : k82.R 82 w base ok v1 x.f1) {v2 : Value} (g2 : k85.R 85 w base ok v2 x.f2) {v3 : Value} (g3 : k69.R 69 w base ok v3 x.f3) : k35.M w base ok x [.string x.f0,v1,v2,v3]:=⟨[.string x.f0],[v1,v2,v3],rfl,rfl,⟨[v1],[v2,v3],rfl,⟨v1,rfl,g1⟩,⟨[v2],[v3],rfl,⟨v2,rfl,g2⟩,⟨v3,rfl,g3⟩⟩⟩⟩
def rd_T35 (xs : List S35) (i : Int) : S35:=xs.getD i.toNat z35
theorem at_T35 {w : World}{A : Option Addr}{n : Nat}{xs : List S35} (h : Kd.C k35 w A n xs) (i : Int) (h0 : 0 ≤ i) (h1 : i < n) : ∃ ad A1 c1 A2 c2 A3 c3,A = some ad ∧ w.cell? (ad.add (i.toNat * 4)) = some (.string (rd_T35 xs i).f0) ∧ w.cell? ⟨(ad.add (i.toNat * 4)).block,(ad.add (i.toNat * 4)).off + 1,none⟩ = some (.slice A1 (rd_T35 xs i).f1.length c1) ∧ w.cell? ⟨(ad.add (i.toNat * 4)).block,(ad.add (i.toNat * 4)).off + 2,none⟩ = some (.slice A2 (rd_T35 xs i).f2.length c2) ∧ w.cell? ⟨(ad.add (i.toNat * 4)).block,(ad.add (i.toNat * 4)).off + 3,none⟩ = some (.slice A3 (rd_T35 xs i).f3.length c3) ∧ (rd_T35 xs i).f1.length ≤ c1 ∧ k82.C w A1 (rd_T35 xs i).f1.length (rd_T35 xs i).f1 ∧ (rd_T35 xs i).f2.length ≤ c2 ∧ k85.C w A2 (rd_T35 xs i).f2.length (rd_T35 xs i).f2 ∧ (rd_T35 xs i).f3.length ≤ c3 ∧ k69.C w A3 (rd_T35 xs i).f3.length (rd_T35 xs i).f3:=by
 obtain ⟨ad,c,e,_,hK,hc0⟩:=Kd.C_get h z35 i h0 h1
 have hc : ∀ j u,c[j]? = some u → w.cell? (ad.add (i.toNat * 4 + j)) = some u:=hc0
 obtain ⟨A1,c1,A2,c2,A3,c3,rfl,l1,g1,l2,g2,l3,g3⟩:=k35_open hK
 exact ⟨ad,A1,c1,A2,c2,A3,c3,e,hc 0 _ rfl,by rw [← add_field _ _ 1 (by omega)];exact hc 1 _ rfl,by rw [← add_field _ _ 2 (by omega)];exact hc 2 _ rfl,by rw [← add_field _ _ 3 (by omega)];exact hc 3 _ rfl,l1,g1,l2,g2,l3,g3⟩
end Go.Proofs.YtipehkeabnfngaaDoor.PFnExactDefsText
