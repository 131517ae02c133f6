/- Functions of the program by their own lists and numbers. No condition beyond those in each statement. -/
import Derived.Test.YthadcmcdbcfjaaaGreatDoorPvLcC
import Derived.Test.YthadcmcdbcfjaaaGreatDoorShelf
import Derived.WalkKit
import Derived.ProofKit
set_option linter.unusedVariables false
set_option linter.unusedSimpArgs false
set_option maxRecDepth 100000
set_option linter.unusedVariables false
set_option linter.unusedSimpArgs false
namespace Go.PV
open Go.Proofs Go.RowKit
open Go.Shelf in
theorem split_run (s : ByteArray) (w : World) (hs : s.size < 4294967281) :
  Calls Tryz.prog 154 #[.string s, .string spaceB] w fun e w' => e = .returned (.slice (some ⟨w.heap.size, 0, none⟩) (splitL s).length (splitL s).length) ∧ w' = w.alloc (.cells ((splitL s).map Value.string).toArray 9) := by
 have h1 : 1 ≤ spaceB.size := Nat.le_refl 1
 have hle := Lib.countB_le spaceB h1 s.size s (Nat.le_refl _)
 have hlen : (splitL s).length = Lib.countB s spaceB + 1 := Lib.splitB_all spaceB h1 0 _ s rfl
 have hlen2 : (Lib.splitB spaceB 0 (Lib.countB s spaceB) s).length = Lib.countB s spaceB + 1 := hlen
 have c := Any.strings_genSplit_core Tryz.lays221 (by kernel_rfl) s spaceB 0 (-1) (Lib.countB s spaceB + 1) w hs h1 (Nat.zero_le _)
  (fun x c hx => (Tryz.strings_Index_one x 32 _).mono fun e w' ⟨he, hw⟩ => ⟨by rw [he, ← Lib.index_one]; rfl, hw⟩)
  ((Tryz.strings_Count_one s 32 w).mono fun e w' ⟨he, hw⟩ => ⟨by
    rw [he]
    show _ = Ending.returned (Value.int .i64 ((Lib.count s.data.toList [32] : Nat) : Int))
    rw [Lib.count_one]
    rfl, hw⟩) (by decide) (by decide) (by rw [if_pos (by decide)]; omega)
 rw [Nat.add_sub_cancel, hlen2] at c
 have e2 : Lib.cellsOf (Lib.splitB spaceB 0 (Lib.countB s spaceB) s) (Lib.countB s spaceB + 1) = ((Lib.splitB spaceB 0 (Lib.countB s spaceB) s).map Value.string).toArray := by rw [← hlen2]; exact Lib.cellsOf_full _
 rw [e2] at c
 rw [hlen]
 go_enter Tryz.func154, Tryz.ntmps154
 go_wp2_with (go_at_call 161; refine c.mono ?_; rintro e w' ⟨rfl, hw⟩; rw [hw])
 go_ret
 exact ⟨rfl, rfl⟩
theorem split_ok : Contract Tryz.prog splitSig 154 splitLaw := split_contract ⟨_, _, Tryz.func154, rfl, by decide +kernel⟩ split_run
end Go.PV
