import Derived.Test.YtllgmgpfdnofmaaZNDKitD
namespace Go.Proofs.Ytllgmgpfdnofmaa.KitF
open Go.RowKit Go.Proofs.YtllgmgpfdnofmaaW.PrintWords Go.Proofs.YtllgmgpfdnofmaaW.PrintMore Go.Proofs.Ytllgmgpfdnofmaa.Kit Go.Proofs.Ytllgmgpfdnofmaa.KitB Go.Proofs.Ytllgmgpfdnofmaa.KitC Go.Proofs.Ytllgmgpfdnofmaa.KitD
theorem strOf_bytesOf (s : ByteArray) : strOfNums (bytesOf s) = s := by
  have h : bytesOf (strOfNums (bytesOf s)) = bytesOf s := bytesOf_strOf _ (bytesOf_bytes s)
  have h2 := bytesOf_inj.1 h
  apply ByteArray.ext
  apply Array.toList_inj.1
  rw [ByteArray.toList_eq, ByteArray.toList_eq] at h2
  exact h2
theorem getTextM_put (s : ByteArray) (hs : s.size ≤ 1000000) (r : List Int) : getTextM (txtM s ++ r) = some (s, (txtM s).length) := by
  have hl := bytesOf_length s
  unfold getTextM txtM
  rw [List.append_assoc, getUM_put s.size (by omega) (by omega)]
  simp only
  rw [if_neg (by simp only [List.length_append]; omega), List.drop_left, Int.toNat_natCast]
  have e : (bytesOf s ++ r).take s.size = bytesOf s := by
    have := List.take_left (l₁ := bytesOf s) (l₂ := r)
    rwa [hl] at this
  rw [e, strOf_bytesOf, List.length_append, hl]
end Go.Proofs.Ytllgmgpfdnofmaa.KitF
