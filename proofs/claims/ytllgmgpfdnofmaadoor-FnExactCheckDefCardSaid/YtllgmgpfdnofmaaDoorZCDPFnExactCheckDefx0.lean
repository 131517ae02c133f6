import Derived.Test.YtllgmgpfdnofmaaDoorProg
import Derived.Below
import Derived.Deep.Draws
import Derived.Deep.AppendLies
import Derived.Maps.AppendAt
import Derived.OwnWalk
import Derived.Laws.BytesArg
import Derived.Laws.MakeOwn
import Derived.Laws.OwnMore
import Derived.Deep.OwnRows
import Derived.Tactics
import Derived.Lib.ConvBytes
import Derived.Laws.Slices
import Derived.WalkKit
import Derived.KernelRfl
import Derived.RowKit3
import Derived.Deep.LoopGhost
import Derived.Deep.QuietTactic
import Derived.BigQuiet
import Derived.WideLaws
import Derived.Deep.DeepCutAuto
import Derived.Deep.CutBlock
import Derived.Deep.RegionHeld3
import Derived.Laws.Rows
import Derived.Lib.AppendStr
import Derived.ArgAppend
import Derived.Laws.IdiomCopy
import Derived.OrdersHeld
import Derived.Laws.BitsLemmas
import Derived.RowKit
import Derived.Test.YtllgmgpfdnofmaaDoorZCDWWords
import Derived.Test.YtllgmgpfdnofmaaDoorZCDWLast
import Derived.Test.YtllgmgpfdnofmaaDoorZCDWTab
import Derived.Test.YtllgmgpfdnofmaaDoorZCDWFour
import Derived.Test.YtllgmgpfdnofmaaDoorZCDWQPut
import Derived.Test.YtllgmgpfdnofmaaDoorZCDWApart
import Derived.Test.YtllgmgpfdnofmaaDoorZCDWArr
import Derived.Test.YtllgmgpfdnofmaaDoorZCDWZeros
import Derived.Test.YtllgmgpfdnofmaaDoorZCDWFoot
import Derived.Test.YtllgmgpfdnofmaaDoorZCDWKept
import Derived.Test.YtllgmgpfdnofmaaDoorZCDWShare
import Derived.Test.YtllgmgpfdnofmaaDoorZCDWN
import Derived.Test.YtllgmgpfdnofmaaDoorZCDWFootNe
import Derived.Test.YtllgmgpfdnofmaaDoorZCDWAt
import Derived.Test.YtllgmgpfdnofmaaDoorZCDWEqStruct
import Derived.Test.YtllgmgpfdnofmaaDoorZCDWRepsOne
import Derived.Test.YtllgmgpfdnofmaaDoorZCDWInv
import Derived.Test.YtllgmgpfdnofmaaDoorZCDWInvWords
import Derived.Test.YtllgmgpfdnofmaaDoorZCDWGuard
import Derived.Test.YtllgmgpfdnofmaaDoorZCDWNEv
import Derived.Test.YtllgmgpfdnofmaaDoorZCDWMore
import Derived.Test.YtllgmgpfdnofmaaDoorZCDXtra
namespace Go.Proofs.YtllgmgpfdnofmaaDoor.PFnExactCheckDef
open Go.RowKit Go.Proofs.YtllgmgpfdnofmaaDoorW.PrintWords Go.Proofs.YtllgmgpfdnofmaaDoorW.PrintLast Go.Proofs.YtllgmgpfdnofmaaDoorW.PrintMore Go.Proofs.YtllgmgpfdnofmaaDoor.Xtra
attribute [local go_sem] max2_int min2_int max_two min_two max_three min_three max_four min_four str_leq str_gtr str_geq setCell_drewN cell_set2 cell_set3   -- for this text's walks alone
set_option linter.unusedVariables false
set_option linter.unusedSimpArgs false
def errW : Option Int → Value
 | none=>.nilIface
 | some c=>.iface 0 (.int .i64 c)
theorem errW_none : errW none = .nilIface:=rfl
theorem errW_some (c : Int) : errW (some c) = .iface 0 (.int .i64 c):=rfl
theorem info42 : (Tryd.prog.info? 42).map (fun i=>(i.zero,i.size,i.bytes)) = some (some (.agg #[(.string ⟨#[]⟩),(.int .i64 0),(.bool false)]),3,32):=by kernel_rfl
theorem info44 : (Tryd.prog.info? 44).map (fun i=>(i.zero,i.size,i.bytes)) = some (some (.agg #[(.int .i64 0),(.bool false)]),2,16):=by kernel_rfl
theorem info50 : (Tryd.prog.info? 50).map (fun i=>(i.zero,i.size,i.bytes)) = some (some (.agg #[(.string ⟨#[]⟩),(.bool false),(.slice none 0 0)]),3,48):=by kernel_rfl
structure S56 where
 f0 : ByteArray
 f1 : Int
 f2 : Bool
def z56 : S56:=⟨(⟨#[]⟩ : ByteArray),(0 : Int),false⟩
def k56 : Kd S56:=Kd.iso (Kd.pair Kd.string (Kd.pair (Kd.int .i64) Kd.bool)) (fun x : S56=>(x.f0,x.f1,x.f2))
theorem k56_open {w : World}{x : S56}{cs : List Value} (h : k56.K w x cs) : cs = [.string x.f0,.int .i64 x.f1,.bool x.f2]:=by
 obtain ⟨_,_,rfl,rfl,⟨_,_,rfl,rfl,rfl⟩⟩:=h
 exact rfl
def rd_T56 (xs : List S56) (i : Int) : S56:=xs.getD i.toNat z56
theorem at_T56 {w : World}{A : Option Addr}{n : Nat}{xs : List S56} (h : Kd.C k56 w A n xs) (i : Int) (h0 : 0 ≤ i) (h1 : i < n) : ∃ ad , A = some ad ∧ w.cell? (ad.add (i.toNat * 3)) = some (.string (rd_T56 xs i).f0) ∧ w.cell? ⟨(ad.add (i.toNat * 3)).block,(ad.add (i.toNat * 3)).off + 1,none⟩ = some (.int .i64 (rd_T56 xs i).f1) ∧ w.cell? ⟨(ad.add (i.toNat * 3)).block,(ad.add (i.toNat * 3)).off + 2,none⟩ = some (.bool (rd_T56 xs i).f2):=by
 obtain ⟨ad,c,e,_,hK,hc0⟩:=Kd.C_get h z56 i h0 h1
 have hc : ∀ j u,c[j]? = some u → w.cell? (ad.add (i.toNat * 3 + j)) = some u:=hc0
 obtain rfl:=k56_open hK
 exact ⟨ad,e,hc 0 _ rfl,by rw [← add_field _ _ 1 (by omega)];exact hc 1 _ rfl,by rw [← add_field _ _ 2 (by omega)];exact hc 2 _ rfl⟩
structure S64 where
 f0 : Int
 f1 : Bool
def z64 : S64:=⟨(0 : Int),false⟩
def k64 : Kd S64:=Kd.iso (Kd.pair (Kd.int .i64) Kd.bool) (fun x : S64=>(x.f0,x.f1))
theorem k64_open {w : World}{x : S64}{cs : List Value} (h : k64.K w x cs) : cs = [.int .i64 x.f0,.bool x.f1]:=by
 obtain ⟨_,_,rfl,rfl,rfl⟩:=h
 exact rfl
def rd_T64 (xs : List S64) (i : Int) : S64:=xs.getD i.toNat z64
theorem at_T64 {w : World}{A : Option Addr}{n : Nat}{xs : List S64} (h : Kd.C k64 w A n xs) (i : Int) (h0 : 0 ≤ i) (h1 : i < n) : ∃ ad , A = some ad ∧ w.cell? (ad.add (i.toNat * 2)) = some (.int .i64 (rd_T64 xs i).f0) ∧ w.cell? ⟨(ad.add (i.toNat * 2)).block,(ad.add (i.toNat * 2)).off + 1,none⟩ = some (.bool (rd_T64 xs i).f1):=by
 obtain ⟨ad,c,e,_,hK,hc0⟩:=Kd.C_get h z64 i h0 h1
 have hc : ∀ j u,c[j]? = some u → w.cell? (ad.add (i.toNat * 2 + j)) = some u:=hc0
 obtain rfl:=k64_open hK
 exact ⟨ad,e,hc 0 _ rfl,by rw [← add_field _ _ 1 (by omega)];exact hc 1 _ rfl⟩
structure S59 where
 f0 : ByteArray
 f1 : Bool
 f2 : (List S64)
def z59 : S59:=⟨(⟨#[]⟩ : ByteArray),false,([] : List S64)⟩
def k59 : Kd S59:=Kd.iso (Kd.pair Kd.string (Kd.pair Kd.bool (Kd.slice 64 k64))) (fun x : S59=>(x.f0,x.f1,x.f2))
theorem k59_open {w : World}{x : S59}{cs : List Value} (h : k59.K w x cs) : ∃ A2 c2,cs = [.string x.f0,.bool x.f1,.slice A2 x.f2.length c2] ∧ x.f2.length ≤ c2 ∧ k64.C w A2 x.f2.length x.f2:=by
 obtain ⟨_,_,rfl,rfl,⟨_,_,rfl,rfl,⟨A2,c2,rfl,l2,g2⟩⟩⟩:=h
 exact ⟨A2,c2,rfl,l2,g2⟩
def rd_T59 (xs : List S59) (i : Int) : S59:=xs.getD i.toNat z59
theorem at_T59 {w : World}{A : Option Addr}{n : Nat}{xs : List S59} (h : Kd.C k59 w A n xs) (i : Int) (h0 : 0 ≤ i) (h1 : i < n) : ∃ ad A2 c2,A = some ad ∧ w.cell? (ad.add (i.toNat * 3)) = some (.string (rd_T59 xs i).f0) ∧ w.cell? ⟨(ad.add (i.toNat * 3)).block,(ad.add (i.toNat * 3)).off + 1,none⟩ = some (.bool (rd_T59 xs i).f1) ∧ w.cell? ⟨(ad.add (i.toNat * 3)).block,(ad.add (i.toNat * 3)).off + 2,none⟩ = some (.slice A2 (rd_T59 xs i).f2.length c2) ∧ (rd_T59 xs i).f2.length ≤ c2 ∧ k64.C w A2 (rd_T59 xs i).f2.length (rd_T59 xs i).f2:=by
 obtain ⟨ad,c,e,_,hK,hc0⟩:=Kd.C_get h z59 i h0 h1
 have hc : ∀ j u,c[j]? = some u → w.cell? (ad.add (i.toNat * 3 + j)) = some u:=hc0
 obtain ⟨A2,c2,rfl,l2,g2⟩:=k59_open hK
 exact ⟨ad,A2,c2,e,hc 0 _ rfl,by rw [← add_field _ _ 1 (by omega)];exact hc 1 _ rfl,by rw [← add_field _ _ 2 (by omega)];exact hc 2 _ rfl,l2,g2⟩
structure S42 where
 f0 : ByteArray
 f1 : Int
 f2 : Bool
def z42 : S42:=⟨(⟨#[]⟩ : ByteArray),(0 : Int),false⟩
def k42 : Kd S42:=Kd.iso (Kd.pair Kd.string (Kd.pair (Kd.int .i64) Kd.bool)) (fun x : S42=>(x.f0,x.f1,x.f2))
theorem k42_open {w : World}{x : S42}{cs : List Value} (h : k42.K w x cs) : cs = [.string x.f0,.int .i64 x.f1,.bool x.f2]:=by
 obtain ⟨_,_,rfl,rfl,⟨_,_,rfl,rfl,rfl⟩⟩:=h
 exact rfl
theorem k42_openM {w : World}{base : Nat}{ok : Nat → Prop}{x : S42}{cs : List Value} (h : k42.M w base ok x cs) : cs = [.string x.f0,.int .i64 x.f1,.bool x.f2]:=by
 obtain ⟨_,_,rfl,rfl,⟨_,_,rfl,rfl,rfl⟩⟩:=h
 exact rfl
theorem k42_mkM (w : World) (base : Nat) (ok : Nat → Prop) (x : S42)  : k42.M w base ok x [.string x.f0,.int .i64 x.f1,.bool x.f2]:=⟨[.string x.f0],[.int .i64 x.f1,.bool x.f2],rfl,rfl,⟨[.int .i64 x.f1],[.bool x.f2],rfl,rfl,rfl⟩⟩
def rd_T42 (xs : List S42) (i : Int) : S42:=xs.getD i.toNat z42
theorem at_T42 {w : World}{A : Option Addr}{n : Nat}{xs : List S42} (h : Kd.C k42 w A n xs) (i : Int) (h0 : 0 ≤ i) (h1 : i < n) : ∃ ad , A = some ad ∧ w.cell? (ad.add (i.toNat * 3)) = some (.string (rd_T42 xs i).f0) ∧ w.cell? ⟨(ad.add (i.toNat * 3)).block,(ad.add (i.toNat * 3)).off + 1,none⟩ = some (.int .i64 (rd_T42 xs i).f1) ∧ w.cell? ⟨(ad.add (i.toNat * 3)).block,(ad.add (i.toNat * 3)).off + 2,none⟩ = some (.bool (rd_T42 xs i).f2):=by
 obtain ⟨ad,c,e,_,hK,hc0⟩:=Kd.C_get h z42 i h0 h1
 have hc : ∀ j u,c[j]? = some u → w.cell? (ad.add (i.toNat * 3 + j)) = some u:=hc0
 obtain rfl:=k42_open hK
 exact ⟨ad,e,hc 0 _ rfl,by rw [← add_field _ _ 1 (by omega)];exact hc 1 _ rfl,by rw [← add_field _ _ 2 (by omega)];exact hc 2 _ rfl⟩
structure S44 where
 f0 : Int
 f1 : Bool
def z44 : S44:=⟨(0 : Int),false⟩
def k44 : Kd S44:=Kd.iso (Kd.pair (Kd.int .i64) Kd.bool) (fun x : S44=>(x.f0,x.f1))
theorem k44_open {w : World}{x : S44}{cs : List Value} (h : k44.K w x cs) : cs = [.int .i64 x.f0,.bool x.f1]:=by
 obtain ⟨_,_,rfl,rfl,rfl⟩:=h
 exact rfl
theorem k44_openM {w : World}{base : Nat}{ok : Nat → Prop}{x : S44}{cs : List Value} (h : k44.M w base ok x cs) : cs = [.int .i64 x.f0,.bool x.f1]:=by
 obtain ⟨_,_,rfl,rfl,rfl⟩:=h
 exact rfl
theorem k44_mkM (w : World) (base : Nat) (ok : Nat → Prop) (x : S44)  : k44.M w base ok x [.int .i64 x.f0,.bool x.f1]:=⟨[.int .i64 x.f0],[.bool x.f1],rfl,rfl,rfl⟩
def rd_T44 (xs : List S44) (i : Int) : S44:=xs.getD i.toNat z44
theorem at_T44 {w : World}{A : Option Addr}{n : Nat}{xs : List S44} (h : Kd.C k44 w A n xs) (i : Int) (h0 : 0 ≤ i) (h1 : i < n) : ∃ ad , A = some ad ∧ w.cell? (ad.add (i.toNat * 2)) = some (.int .i64 (rd_T44 xs i).f0) ∧ w.cell? ⟨(ad.add (i.toNat * 2)).block,(ad.add (i.toNat * 2)).off + 1,none⟩ = some (.bool (rd_T44 xs i).f1):=by
 obtain ⟨ad,c,e,_,hK,hc0⟩:=Kd.C_get h z44 i h0 h1
 have hc : ∀ j u,c[j]? = some u → w.cell? (ad.add (i.toNat * 2 + j)) = some u:=hc0
 obtain rfl:=k44_open hK
 exact ⟨ad,e,hc 0 _ rfl,by rw [← add_field _ _ 1 (by omega)];exact hc 1 _ rfl⟩
structure S50 where
 f0 : ByteArray
 f1 : Bool
 f2 : (List S44)
def z50 : S50:=⟨(⟨#[]⟩ : ByteArray),false,([] : List S44)⟩
def k50 : Kd S50:=Kd.iso (Kd.pair Kd.string (Kd.pair Kd.bool (Kd.slice 44 k44))) (fun x : S50=>(x.f0,x.f1,x.f2))
theorem k50_open {w : World}{x : S50}{cs : List Value} (h : k50.K w x cs) : ∃ A2 c2,cs = [.string x.f0,.bool x.f1,.slice A2 x.f2.length c2] ∧ x.f2.length ≤ c2 ∧ k44.C w A2 x.f2.length x.f2:=by
 obtain ⟨_,_,rfl,rfl,⟨_,_,rfl,rfl,⟨A2,c2,rfl,l2,g2⟩⟩⟩:=h
 exact ⟨A2,c2,rfl,l2,g2⟩
theorem k50_openM {w : World}{base : Nat}{ok : Nat → Prop}{x : S50}{cs : List Value} (h : k50.M w base ok x cs) : ∃ v2,cs = [.string x.f0,.bool x.f1,v2] ∧ k44.R 44 w base ok v2 x.f2:=by
 obtain ⟨_,_,rfl,rfl,⟨_,_,rfl,rfl,⟨v2,rfl,g2⟩⟩⟩:=h
 exact ⟨v2,rfl,g2⟩
theorem k50_mkM (w : World) (base : Nat) (ok : Nat → Prop) (x : S50) {v2 : Value} (g2 : k44.R 44 w base ok v2 x.f2) : k50.M w base ok x [.string x.f0,.bool x.f1,v2]:=⟨[.string x.f0],[.bool x.f1,v2],rfl,rfl,⟨[.bool x.f1],[v2],rfl,rfl,⟨v2,rfl,g2⟩⟩⟩
def rd_T50 (xs : List S50) (i : Int) : S50:=xs.getD i.toNat z50
theorem at_T50 {w : World}{A : Option Addr}{n : Nat}{xs : List S50} (h : Kd.C k50 w A n xs) (i : Int) (h0 : 0 ≤ i) (h1 : i < n) : ∃ ad A2 c2,A = some ad ∧ w.cell? (ad.add (i.toNat * 3)) = some (.string (rd_T50 xs i).f0) ∧ w.cell? ⟨(ad.add (i.toNat * 3)).block,(ad.add (i.toNat * 3)).off + 1,none⟩ = some (.bool (rd_T50 xs i).f1) ∧ w.cell? ⟨(ad.add (i.toNat * 3)).block,(ad.add (i.toNat * 3)).off + 2,none⟩ = some (.slice A2 (rd_T50 xs i).f2.length c2) ∧ (rd_T50 xs i).f2.length ≤ c2 ∧ k44.C w A2 (rd_T50 xs i).f2.length (rd_T50 xs i).f2:=by
 obtain ⟨ad,c,e,_,hK,hc0⟩:=Kd.C_get h z50 i h0 h1
 have hc : ∀ j u,c[j]? = some u → w.cell? (ad.add (i.toNat * 3 + j)) = some u:=hc0
 obtain ⟨A2,c2,rfl,l2,g2⟩:=k50_open hK
 exact ⟨ad,A2,c2,e,hc 0 _ rfl,by rw [← add_field _ _ 1 (by omega)];exact hc 1 _ rfl,by rw [← add_field _ _ 2 (by omega)];exact hc 2 _ rfl,l2,g2⟩
end Go.Proofs.YtllgmgpfdnofmaaDoor.PFnExactCheckDef
