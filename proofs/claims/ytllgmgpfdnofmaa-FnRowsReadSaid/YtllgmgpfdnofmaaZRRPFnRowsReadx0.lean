import Derived.Test.YtllgmgpfdnofmaaProg
import Derived.Below
import Derived.Deep.Draws
import Derived.Deep.AppendLies
import Derived.Maps.AppendAt
import Derived.OwnWalk
import Derived.Laws.BytesArg
import Derived.Laws.MakeOwn
import Derived.Laws.OwnMore
import Derived.Deep.OwnRows
import Derived.Tactics
import Derived.Lib.ConvBytes
import Derived.Laws.Slices
import Derived.WalkKit
import Derived.KernelRfl
import Derived.RowKit3
import Derived.Deep.LoopGhost
import Derived.Deep.QuietTactic
import Derived.BigQuiet
import Derived.WideLaws
import Derived.Deep.DeepCutAuto
import Derived.Deep.CutBlock
import Derived.Deep.RegionHeld3
import Derived.Laws.Rows
import Derived.Lib.AppendStr
import Derived.ArgAppend
import Derived.Laws.IdiomCopy
import Derived.OrdersHeld
import Derived.Laws.BitsLemmas
import Derived.RowKit
import Derived.Test.YtllgmgpfdnofmaaZRRWWords
import Derived.Test.YtllgmgpfdnofmaaZRRWLast
import Derived.Test.YtllgmgpfdnofmaaZRRWTab
import Derived.Test.YtllgmgpfdnofmaaZRRWFour
import Derived.Test.YtllgmgpfdnofmaaZRRWQPut
import Derived.Test.YtllgmgpfdnofmaaZRRWApart
import Derived.Test.YtllgmgpfdnofmaaZRRWArr
import Derived.Test.YtllgmgpfdnofmaaZRRWZeros
import Derived.Test.YtllgmgpfdnofmaaZRRWFoot
import Derived.Test.YtllgmgpfdnofmaaZRRWKept
import Derived.Test.YtllgmgpfdnofmaaZRRWShare
import Derived.Test.YtllgmgpfdnofmaaZRRWN
import Derived.Test.YtllgmgpfdnofmaaZRRWFootNe
import Derived.Test.YtllgmgpfdnofmaaZRRWAt
import Derived.Test.YtllgmgpfdnofmaaZRRWEqStruct
import Derived.Test.YtllgmgpfdnofmaaZRRWRepsOne
import Derived.Test.YtllgmgpfdnofmaaZRRWInv
import Derived.Test.YtllgmgpfdnofmaaZRRWInvWords
import Derived.Test.YtllgmgpfdnofmaaZRRWGuard
import Derived.Test.YtllgmgpfdnofmaaZRRWNEv
import Derived.Test.YtllgmgpfdnofmaaZRRWMore
import Derived.Test.YtllgmgpfdnofmaaZRRXtra
namespace Go.Proofs.Ytllgmgpfdnofmaa.PFnRowsRead
open Go.RowKit Go.Proofs.YtllgmgpfdnofmaaW.PrintWords Go.Proofs.YtllgmgpfdnofmaaW.PrintLast Go.Proofs.YtllgmgpfdnofmaaW.PrintMore Go.Proofs.Ytllgmgpfdnofmaa.Xtra
attribute [local go_sem] max2_int min2_int max_two min_two max_three min_three max_four min_four str_leq str_gtr str_geq setCell_drewN cell_set2 cell_set3   -- for this text's walks alone
set_option linter.unusedVariables false
set_option linter.unusedSimpArgs false
def errW : Option Int → Value
 | none=>.nilIface
 | some c=>.iface 0 (.int .i64 c)
theorem errW_none : errW none = .nilIface:=rfl
theorem errW_some (c : Int) : errW (some c) = .iface 0 (.int .i64 c):=rfl
theorem info5 : (Try.prog.info? 5).map (fun i=>(i.zero,i.size,i.bytes)) = some (some (.int .u8 0),1,1):=by kernel_rfl
theorem info116 : (Try.prog.info? 116).map (fun i=>(i.zero,i.size,i.bytes)) = some (some (.agg #[(.int .i64 0),(.int .i64 0),(.string ⟨#[]⟩)]),3,32):=by kernel_rfl
theorem info119 : (Try.prog.info? 119).map (fun i=>(i.zero,i.size,i.bytes)) = some (some (.agg #[(.int .i64 0),(.int .i64 0),(.bool false),(.bool false)]),4,24):=by kernel_rfl
structure S119 where
 f0 : Int
 f1 : Int
 f2 : Bool
 f3 : Bool
def z119 : S119:=⟨(0 : Int),(0 : Int),false,false⟩
def k119 : Kd S119:=Kd.iso (Kd.pair (Kd.int .i64) (Kd.pair (Kd.int .i64) (Kd.pair Kd.bool Kd.bool))) (fun x : S119=>(x.f0,x.f1,x.f2,x.f3))
theorem k119_open {w : World}{x : S119}{cs : List Value} (h : k119.K w x cs) : cs = [.int .i64 x.f0,.int .i64 x.f1,.bool x.f2,.bool x.f3]:=by
 obtain ⟨_,_,rfl,rfl,⟨_,_,rfl,rfl,⟨_,_,rfl,rfl,rfl⟩⟩⟩:=h
 exact rfl
theorem k119_openM {w : World}{base : Nat}{ok : Nat → Prop}{x : S119}{cs : List Value} (h : k119.M w base ok x cs) : cs = [.int .i64 x.f0,.int .i64 x.f1,.bool x.f2,.bool x.f3]:=by
 obtain ⟨_,_,rfl,rfl,⟨_,_,rfl,rfl,⟨_,_,rfl,rfl,rfl⟩⟩⟩:=h
 exact rfl
theorem k119_mkM (w : World) (base : Nat) (ok : Nat → Prop) (x : S119)  : k119.M w base ok x [.int .i64 x.f0,.int .i64 x.f1,.bool x.f2,.bool x.f3]:=⟨[.int .i64 x.f0],[.int .i64 x.f1,.bool x.f2,.bool x.f3],rfl,rfl,⟨[.int .i64 x.f1],[.bool x.f2,.bool x.f3],rfl,rfl,⟨[.bool x.f2],[.bool x.f3],rfl,rfl,rfl⟩⟩⟩
def rd_T119 (xs : List S119) (i : Int) : S119:=xs.getD i.toNat z119
theorem at_T119 {w : World}{A : Option Addr}{n : Nat}{xs : List S119} (h : Kd.C k119 w A n xs) (i : Int) (h0 : 0 ≤ i) (h1 : i < n) : ∃ ad , A = some ad ∧ w.cell? (ad.add (i.toNat * 4)) = some (.int .i64 (rd_T119 xs i).f0) ∧ w.cell? ⟨(ad.add (i.toNat * 4)).block,(ad.add (i.toNat * 4)).off + 1,none⟩ = some (.int .i64 (rd_T119 xs i).f1) ∧ w.cell? ⟨(ad.add (i.toNat * 4)).block,(ad.add (i.toNat * 4)).off + 2,none⟩ = some (.bool (rd_T119 xs i).f2) ∧ w.cell? ⟨(ad.add (i.toNat * 4)).block,(ad.add (i.toNat * 4)).off + 3,none⟩ = some (.bool (rd_T119 xs i).f3):=by
 obtain ⟨ad,c,e,_,hK,hc0⟩:=Kd.C_get h z119 i h0 h1
 have hc : ∀ j u,c[j]? = some u → w.cell? (ad.add (i.toNat * 4 + j)) = some u:=hc0
 obtain rfl:=k119_open hK
 exact ⟨ad,e,hc 0 _ rfl,by rw [← add_field _ _ 1 (by omega)];exact hc 1 _ rfl,by rw [← add_field _ _ 2 (by omega)];exact hc 2 _ rfl,by rw [← add_field _ _ 3 (by omega)];exact hc 3 _ rfl⟩
structure S116 where
 f0 : Int
 f1 : Int
 f2 : ByteArray
def z116 : S116:=⟨(0 : Int),(0 : Int),(⟨#[]⟩ : ByteArray)⟩
def k116 : Kd S116:=Kd.iso (Kd.pair (Kd.int .i64) (Kd.pair (Kd.int .i64) Kd.string)) (fun x : S116=>(x.f0,x.f1,x.f2))
theorem k116_open {w : World}{x : S116}{cs : List Value} (h : k116.K w x cs) : cs = [.int .i64 x.f0,.int .i64 x.f1,.string x.f2]:=by
 obtain ⟨_,_,rfl,rfl,⟨_,_,rfl,rfl,rfl⟩⟩:=h
 exact rfl
theorem k116_mkM (w : World) (base : Nat) (ok : Nat → Prop) (x : S116)  : k116.M w base ok x [.int .i64 x.f0,.int .i64 x.f1,.string x.f2]:=⟨[.int .i64 x.f0],[.int .i64 x.f1,.string x.f2],rfl,rfl,⟨[.int .i64 x.f1],[.string x.f2],rfl,rfl,rfl⟩⟩
def rd_T116 (xs : List S116) (i : Int) : S116:=xs.getD i.toNat z116
theorem at_T116 {w : World}{A : Option Addr}{n : Nat}{xs : List S116} (h : Kd.C k116 w A n xs) (i : Int) (h0 : 0 ≤ i) (h1 : i < n) : ∃ ad , A = some ad ∧ w.cell? (ad.add (i.toNat * 3)) = some (.int .i64 (rd_T116 xs i).f0) ∧ w.cell? ⟨(ad.add (i.toNat * 3)).block,(ad.add (i.toNat * 3)).off + 1,none⟩ = some (.int .i64 (rd_T116 xs i).f1) ∧ w.cell? ⟨(ad.add (i.toNat * 3)).block,(ad.add (i.toNat * 3)).off + 2,none⟩ = some (.string (rd_T116 xs i).f2):=by
 obtain ⟨ad,c,e,_,hK,hc0⟩:=Kd.C_get h z116 i h0 h1
 have hc : ∀ j u,c[j]? = some u → w.cell? (ad.add (i.toNat * 3 + j)) = some u:=hc0
 obtain rfl:=k116_open hK
 exact ⟨ad,e,hc 0 _ rfl,by rw [← add_field _ _ 1 (by omega)];exact hc 1 _ rfl,by rw [← add_field _ _ 2 (by omega)];exact hc 2 _ rfl⟩
end Go.Proofs.Ytllgmgpfdnofmaa.PFnRowsRead
