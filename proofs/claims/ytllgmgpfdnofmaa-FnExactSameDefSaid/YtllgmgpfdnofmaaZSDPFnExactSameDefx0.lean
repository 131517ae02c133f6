import Derived.Test.YtllgmgpfdnofmaaProg
import Derived.Below
import Derived.Deep.Draws
import Derived.Deep.AppendLies
import Derived.Maps.AppendAt
import Derived.OwnWalk
import Derived.Laws.BytesArg
import Derived.Laws.MakeOwn
import Derived.Laws.OwnMore
import Derived.Deep.OwnRows
import Derived.Tactics
import Derived.Lib.ConvBytes
import Derived.Laws.Slices
import Derived.WalkKit
import Derived.KernelRfl
import Derived.RowKit3
import Derived.Deep.LoopGhost
import Derived.Deep.QuietTactic
import Derived.BigQuiet
import Derived.WideLaws
import Derived.Deep.DeepCutAuto
import Derived.Deep.CutBlock
import Derived.Deep.RegionHeld3
import Derived.Laws.Rows
import Derived.Lib.AppendStr
import Derived.ArgAppend
import Derived.Laws.IdiomCopy
import Derived.OrdersHeld
import Derived.Laws.BitsLemmas
import Derived.RowKit
import Derived.Test.YtllgmgpfdnofmaaZSDWWords
import Derived.Test.YtllgmgpfdnofmaaZSDWLast
import Derived.Test.YtllgmgpfdnofmaaZSDWTab
import Derived.Test.YtllgmgpfdnofmaaZSDWFour
import Derived.Test.YtllgmgpfdnofmaaZSDWQPut
import Derived.Test.YtllgmgpfdnofmaaZSDWApart
import Derived.Test.YtllgmgpfdnofmaaZSDWArr
import Derived.Test.YtllgmgpfdnofmaaZSDWZeros
import Derived.Test.YtllgmgpfdnofmaaZSDWFoot
import Derived.Test.YtllgmgpfdnofmaaZSDWKept
import Derived.Test.YtllgmgpfdnofmaaZSDWShare
import Derived.Test.YtllgmgpfdnofmaaZSDWN
import Derived.Test.YtllgmgpfdnofmaaZSDWFootNe
import Derived.Test.YtllgmgpfdnofmaaZSDWAt
import Derived.Test.YtllgmgpfdnofmaaZSDWEqStruct
import Derived.Test.YtllgmgpfdnofmaaZSDWRepsOne
import Derived.Test.YtllgmgpfdnofmaaZSDWInv
import Derived.Test.YtllgmgpfdnofmaaZSDWInvWords
import Derived.Test.YtllgmgpfdnofmaaZSDWGuard
import Derived.Test.YtllgmgpfdnofmaaZSDWNEv
import Derived.Test.YtllgmgpfdnofmaaZSDWMore
import Derived.Test.YtllgmgpfdnofmaaZSDXtra
namespace Go.Proofs.Ytllgmgpfdnofmaa.PFnExactSameDef
open Go.RowKit Go.Proofs.YtllgmgpfdnofmaaW.PrintWords Go.Proofs.YtllgmgpfdnofmaaW.PrintLast Go.Proofs.YtllgmgpfdnofmaaW.PrintMore Go.Proofs.Ytllgmgpfdnofmaa.Xtra
attribute [local go_sem] max2_int min2_int max_two min_two max_three min_three max_four min_four str_leq str_gtr str_geq setCell_drewN cell_set2 cell_set3   -- for this text's walks alone
set_option linter.unusedVariables false
set_option linter.unusedSimpArgs false
def errW : Option Int → Value
 | none=>.nilIface
 | some c=>.iface 0 (.int .i64 c)
theorem errW_none : errW none = .nilIface:=rfl
theorem errW_some (c : Int) : errW (some c) = .iface 0 (.int .i64 c):=rfl
theorem info146 : (Try.prog.info? 146).map (fun i=>(i.zero,i.size,i.bytes)) = some (some (.agg #[(.string ⟨#[]⟩),(.int .i64 0),(.bool false)]),3,32):=by kernel_rfl
theorem info148 : (Try.prog.info? 148).map (fun i=>(i.zero,i.size,i.bytes)) = some (some (.agg #[(.string ⟨#[]⟩),(.bool false),(.slice none 0 0)]),3,48):=by kernel_rfl
theorem info184 : (Try.prog.info? 184).map (fun i=>(i.zero,i.size,i.bytes)) = some (some (.agg #[(.int .i64 0),(.bool false)]),2,16):=by kernel_rfl
structure S179 where
 f0 : ByteArray
 f1 : Int
 f2 : Bool
def z179 : S179:=⟨(⟨#[]⟩ : ByteArray),(0 : Int),false⟩
def k179 : Kd S179:=Kd.iso (Kd.pair Kd.string (Kd.pair (Kd.int .i64) Kd.bool)) (fun x : S179=>(x.f0,x.f1,x.f2))
theorem k179_open {w : World}{x : S179}{cs : List Value} (h : k179.K w x cs) : cs = [.string x.f0,.int .i64 x.f1,.bool x.f2]:=by
 obtain ⟨_,_,rfl,rfl,⟨_,_,rfl,rfl,rfl⟩⟩:=h
 exact rfl
def rd_T179 (xs : List S179) (i : Int) : S179:=xs.getD i.toNat z179
theorem at_T179 {w : World}{A : Option Addr}{n : Nat}{xs : List S179} (h : Kd.C k179 w A n xs) (i : Int) (h0 : 0 ≤ i) (h1 : i < n) : ∃ ad , A = some ad ∧ w.cell? (ad.add (i.toNat * 3)) = some (.string (rd_T179 xs i).f0) ∧ w.cell? ⟨(ad.add (i.toNat * 3)).block,(ad.add (i.toNat * 3)).off + 1,none⟩ = some (.int .i64 (rd_T179 xs i).f1) ∧ w.cell? ⟨(ad.add (i.toNat * 3)).block,(ad.add (i.toNat * 3)).off + 2,none⟩ = some (.bool (rd_T179 xs i).f2):=by
 obtain ⟨ad,c,e,_,hK,hc0⟩:=Kd.C_get h z179 i h0 h1
 have hc : ∀ j u,c[j]? = some u → w.cell? (ad.add (i.toNat * 3 + j)) = some u:=hc0
 obtain rfl:=k179_open hK
 exact ⟨ad,e,hc 0 _ rfl,by rw [← add_field _ _ 1 (by omega)];exact hc 1 _ rfl,by rw [← add_field _ _ 2 (by omega)];exact hc 2 _ rfl⟩
structure S187 where
 f0 : Int
 f1 : Bool
def z187 : S187:=⟨(0 : Int),false⟩
def k187 : Kd S187:=Kd.iso (Kd.pair (Kd.int .i64) Kd.bool) (fun x : S187=>(x.f0,x.f1))
theorem k187_open {w : World}{x : S187}{cs : List Value} (h : k187.K w x cs) : cs = [.int .i64 x.f0,.bool x.f1]:=by
 obtain ⟨_,_,rfl,rfl,rfl⟩:=h
 exact rfl
def rd_T187 (xs : List S187) (i : Int) : S187:=xs.getD i.toNat z187
theorem at_T187 {w : World}{A : Option Addr}{n : Nat}{xs : List S187} (h : Kd.C k187 w A n xs) (i : Int) (h0 : 0 ≤ i) (h1 : i < n) : ∃ ad , A = some ad ∧ w.cell? (ad.add (i.toNat * 2)) = some (.int .i64 (rd_T187 xs i).f0) ∧ w.cell? ⟨(ad.add (i.toNat * 2)).block,(ad.add (i.toNat * 2)).off + 1,none⟩ = some (.bool (rd_T187 xs i).f1):=by
 obtain ⟨ad,c,e,_,hK,hc0⟩:=Kd.C_get h z187 i h0 h1
 have hc : ∀ j u,c[j]? = some u → w.cell? (ad.add (i.toNat * 2 + j)) = some u:=hc0
 obtain rfl:=k187_open hK
 exact ⟨ad,e,hc 0 _ rfl,by rw [← add_field _ _ 1 (by omega)];exact hc 1 _ rfl⟩
structure S182 where
 f0 : ByteArray
 f1 : Bool
 f2 : (List S187)
def z182 : S182:=⟨(⟨#[]⟩ : ByteArray),false,([] : List S187)⟩
def k182 : Kd S182:=Kd.iso (Kd.pair Kd.string (Kd.pair Kd.bool (Kd.slice 187 k187))) (fun x : S182=>(x.f0,x.f1,x.f2))
theorem k182_open {w : World}{x : S182}{cs : List Value} (h : k182.K w x cs) : ∃ A2 c2,cs = [.string x.f0,.bool x.f1,.slice A2 x.f2.length c2] ∧ x.f2.length ≤ c2 ∧ k187.C w A2 x.f2.length x.f2:=by
 obtain ⟨_,_,rfl,rfl,⟨_,_,rfl,rfl,⟨A2,c2,rfl,l2,g2⟩⟩⟩:=h
 exact ⟨A2,c2,rfl,l2,g2⟩
def rd_T182 (xs : List S182) (i : Int) : S182:=xs.getD i.toNat z182
theorem at_T182 {w : World}{A : Option Addr}{n : Nat}{xs : List S182} (h : Kd.C k182 w A n xs) (i : Int) (h0 : 0 ≤ i) (h1 : i < n) : ∃ ad A2 c2,A = some ad ∧ w.cell? (ad.add (i.toNat * 3)) = some (.string (rd_T182 xs i).f0) ∧ w.cell? ⟨(ad.add (i.toNat * 3)).block,(ad.add (i.toNat * 3)).off + 1,none⟩ = some (.bool (rd_T182 xs i).f1) ∧ w.cell? ⟨(ad.add (i.toNat * 3)).block,(ad.add (i.toNat * 3)).off + 2,none⟩ = some (.slice A2 (rd_T182 xs i).f2.length c2) ∧ (rd_T182 xs i).f2.length ≤ c2 ∧ k187.C w A2 (rd_T182 xs i).f2.length (rd_T182 xs i).f2:=by
 obtain ⟨ad,c,e,_,hK,hc0⟩:=Kd.C_get h z182 i h0 h1
 have hc : ∀ j u,c[j]? = some u → w.cell? (ad.add (i.toNat * 3 + j)) = some u:=hc0
 obtain ⟨A2,c2,rfl,l2,g2⟩:=k182_open hK
 exact ⟨ad,A2,c2,e,hc 0 _ rfl,by rw [← add_field _ _ 1 (by omega)];exact hc 1 _ rfl,by rw [← add_field _ _ 2 (by omega)];exact hc 2 _ rfl,l2,g2⟩
structure S184 where
 f0 : Int
 f1 : Bool
def z184 : S184:=⟨(0 : Int),false⟩
def k184 : Kd S184:=Kd.iso (Kd.pair (Kd.int .i64) Kd.bool) (fun x : S184=>(x.f0,x.f1))
theorem k184_open {w : World}{x : S184}{cs : List Value} (h : k184.K w x cs) : cs = [.int .i64 x.f0,.bool x.f1]:=by
 obtain ⟨_,_,rfl,rfl,rfl⟩:=h
 exact rfl
theorem k184_openM {w : World}{base : Nat}{ok : Nat → Prop}{x : S184}{cs : List Value} (h : k184.M w base ok x cs) : cs = [.int .i64 x.f0,.bool x.f1]:=by
 obtain ⟨_,_,rfl,rfl,rfl⟩:=h
 exact rfl
theorem k184_mkM (w : World) (base : Nat) (ok : Nat → Prop) (x : S184)  : k184.M w base ok x [.int .i64 x.f0,.bool x.f1]:=⟨[.int .i64 x.f0],[.bool x.f1],rfl,rfl,rfl⟩
def rd_T184 (xs : List S184) (i : Int) : S184:=xs.getD i.toNat z184
theorem at_T184 {w : World}{A : Option Addr}{n : Nat}{xs : List S184} (h : Kd.C k184 w A n xs) (i : Int) (h0 : 0 ≤ i) (h1 : i < n) : ∃ ad , A = some ad ∧ w.cell? (ad.add (i.toNat * 2)) = some (.int .i64 (rd_T184 xs i).f0) ∧ w.cell? ⟨(ad.add (i.toNat * 2)).block,(ad.add (i.toNat * 2)).off + 1,none⟩ = some (.bool (rd_T184 xs i).f1):=by
 obtain ⟨ad,c,e,_,hK,hc0⟩:=Kd.C_get h z184 i h0 h1
 have hc : ∀ j u,c[j]? = some u → w.cell? (ad.add (i.toNat * 2 + j)) = some u:=hc0
 obtain rfl:=k184_open hK
 exact ⟨ad,e,hc 0 _ rfl,by rw [← add_field _ _ 1 (by omega)];exact hc 1 _ rfl⟩
structure S146 where
 f0 : ByteArray
 f1 : Int
 f2 : Bool
def z146 : S146:=⟨(⟨#[]⟩ : ByteArray),(0 : Int),false⟩
def k146 : Kd S146:=Kd.iso (Kd.pair Kd.string (Kd.pair (Kd.int .i64) Kd.bool)) (fun x : S146=>(x.f0,x.f1,x.f2))
theorem k146_open {w : World}{x : S146}{cs : List Value} (h : k146.K w x cs) : cs = [.string x.f0,.int .i64 x.f1,.bool x.f2]:=by
 obtain ⟨_,_,rfl,rfl,⟨_,_,rfl,rfl,rfl⟩⟩:=h
 exact rfl
theorem k146_openM {w : World}{base : Nat}{ok : Nat → Prop}{x : S146}{cs : List Value} (h : k146.M w base ok x cs) : cs = [.string x.f0,.int .i64 x.f1,.bool x.f2]:=by
 obtain ⟨_,_,rfl,rfl,⟨_,_,rfl,rfl,rfl⟩⟩:=h
 exact rfl
theorem k146_mkM (w : World) (base : Nat) (ok : Nat → Prop) (x : S146)  : k146.M w base ok x [.string x.f0,.int .i64 x.f1,.bool x.f2]:=⟨[.string x.f0],[.int .i64 x.f1,.bool x.f2],rfl,rfl,⟨[.int .i64 x.f1],[.bool x.f2],rfl,rfl,rfl⟩⟩
def rd_T146 (xs : List S146) (i : Int) : S146:=xs.getD i.toNat z146
theorem at_T146 {w : World}{A : Option Addr}{n : Nat}{xs : List S146} (h : Kd.C k146 w A n xs) (i : Int) (h0 : 0 ≤ i) (h1 : i < n) : ∃ ad , A = some ad ∧ w.cell? (ad.add (i.toNat * 3)) = some (.string (rd_T146 xs i).f0) ∧ w.cell? ⟨(ad.add (i.toNat * 3)).block,(ad.add (i.toNat * 3)).off + 1,none⟩ = some (.int .i64 (rd_T146 xs i).f1) ∧ w.cell? ⟨(ad.add (i.toNat * 3)).block,(ad.add (i.toNat * 3)).off + 2,none⟩ = some (.bool (rd_T146 xs i).f2):=by
 obtain ⟨ad,c,e,_,hK,hc0⟩:=Kd.C_get h z146 i h0 h1
 have hc : ∀ j u,c[j]? = some u → w.cell? (ad.add (i.toNat * 3 + j)) = some u:=hc0
 obtain rfl:=k146_open hK
 exact ⟨ad,e,hc 0 _ rfl,by rw [← add_field _ _ 1 (by omega)];exact hc 1 _ rfl,by rw [← add_field _ _ 2 (by omega)];exact hc 2 _ rfl⟩
structure S148 where
 f0 : ByteArray
 f1 : Bool
 f2 : (List S184)
def z148 : S148:=⟨(⟨#[]⟩ : ByteArray),false,([] : List S184)⟩
def k148 : Kd S148:=Kd.iso (Kd.pair Kd.string (Kd.pair Kd.bool (Kd.slice 184 k184))) (fun x : S148=>(x.f0,x.f1,x.f2))
theorem k148_open {w : World}{x : S148}{cs : List Value} (h : k148.K w x cs) : ∃ A2 c2,cs = [.string x.f0,.bool x.f1,.slice A2 x.f2.length c2] ∧ x.f2.length ≤ c2 ∧ k184.C w A2 x.f2.length x.f2:=by
 obtain ⟨_,_,rfl,rfl,⟨_,_,rfl,rfl,⟨A2,c2,rfl,l2,g2⟩⟩⟩:=h
 exact ⟨A2,c2,rfl,l2,g2⟩
theorem k148_openM {w : World}{base : Nat}{ok : Nat → Prop}{x : S148}{cs : List Value} (h : k148.M w base ok x cs) : ∃ v2,cs = [.string x.f0,.bool x.f1,v2] ∧ k184.R 184 w base ok v2 x.f2:=by
 obtain ⟨_,_,rfl,rfl,⟨_,_,rfl,rfl,⟨v2,rfl,g2⟩⟩⟩:=h
 exact ⟨v2,rfl,g2⟩
theorem k148_mkM (w : World) (base : Nat) (ok : Nat → Prop) (x : S148) {v2 : Value} (g2 : k184.R 184 w base ok v2 x.f2) : k148.M w base ok x [.string x.f0,.bool x.f1,v2]:=⟨[.string x.f0],[.bool x.f1,v2],rfl,rfl,⟨[.bool x.f1],[v2],rfl,rfl,⟨v2,rfl,g2⟩⟩⟩
def rd_T148 (xs : List S148) (i : Int) : S148:=xs.getD i.toNat z148
theorem at_T148 {w : World}{A : Option Addr}{n : Nat}{xs : List S148} (h : Kd.C k148 w A n xs) (i : Int) (h0 : 0 ≤ i) (h1 : i < n) : ∃ ad A2 c2,A = some ad ∧ w.cell? (ad.add (i.toNat * 3)) = some (.string (rd_T148 xs i).f0) ∧ w.cell? ⟨(ad.add (i.toNat * 3)).block,(ad.add (i.toNat * 3)).off + 1,none⟩ = some (.bool (rd_T148 xs i).f1) ∧ w.cell? ⟨(ad.add (i.toNat * 3)).block,(ad.add (i.toNat * 3)).off + 2,none⟩ = some (.slice A2 (rd_T148 xs i).f2.length c2) ∧ (rd_T148 xs i).f2.length ≤ c2 ∧ k184.C w A2 (rd_T148 xs i).f2.length (rd_T148 xs i).f2:=by
 obtain ⟨ad,c,e,_,hK,hc0⟩:=Kd.C_get h z148 i h0 h1
 have hc : ∀ j u,c[j]? = some u → w.cell? (ad.add (i.toNat * 3 + j)) = some u:=hc0
 obtain ⟨A2,c2,rfl,l2,g2⟩:=k148_open hK
 exact ⟨ad,A2,c2,e,hc 0 _ rfl,by rw [← add_field _ _ 1 (by omega)];exact hc 1 _ rfl,by rw [← add_field _ _ 2 (by omega)];exact hc 2 _ rfl,l2,g2⟩
end Go.Proofs.Ytllgmgpfdnofmaa.PFnExactSameDef
