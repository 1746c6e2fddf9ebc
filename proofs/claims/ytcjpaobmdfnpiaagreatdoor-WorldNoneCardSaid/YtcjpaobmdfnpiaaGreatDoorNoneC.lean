/- docketlaw21.WorldNone holds for every input, as its tied card says. Conditions: none. -/
import Derived.Test.YtcjpaobmdfnpiaaGreatDoorCards
import Derived.Test.YtcjpaobmdfnpiaaGreatDoorNoneP
import Derived.Test.YtcjpaobmdfnpiaaGreatDoorTies
import Derived.Test.YtcjpaobmdfnpiaaGreatDoorRun5
import Derived.Test.YtcjpaobmdfnpiaaGreatDoorFactA
import Derived.Test.YtcjpaobmdfnpiaaGreatDoorFactG
import Derived.Test.YtcjpaobmdfnpiaaGreatDoorFactH
import Derived.Test.YtcjpaobmdfnpiaaGreatDoorClo
import Derived.Test.YtcjpaobmdfnpiaaGreatDoorFactI
import Derived.Test.YtcjpaobmdfnpiaaGreatDoorFactJ
import Derived.Test.YtcjpaobmdfnpiaaGreatDoorFactK
import Derived.Test.YtcjpaobmdfnpiaaGreatDoorFactC
set_option linter.all false
section
/- THE CARD OF docketlaw21.WorldNone. -/
set_option linter.unusedVariables false
namespace Go.Proofs.YtcjpaobmdfnpiaaGreatDoor
open Go.ChangeShapes Go.WideShapes Go.ChangeAt Go.RowKit Go.Lib
theorem nJ13 : (Rows.worldNoneRow.unfollowed == Tryz.prog.unfollowed 5) = true := by rw [nJ13u]; rfl
theorem nJ14 : (Rows.worldNoneRow.recurses == Tryz.prog.recurses 5) = true := by unfold Program.recurses; rw [nJ13u]; rfl
theorem closed5 : joinedFacts Tryz.prog 5 Tryz.f5 Rows.worldNoneSpec Rows.worldNoneRow = true := by
  unfold joinedFacts
  rw [nJ1, laidOut, nJ3, nJ4, nJ5, nJ9, nJ11, nJ12, nJ13, nJ14, nJ15, nR1, nR2, nR3, nR4, nR5, nR6, nR7, nR8, nR9, nR10, nR11, nR12]
  kernel_rfl

theorem nK2 : Tryz.f5.isInstance Tryz.prog Rows.worldNoneRow.origin Rows.worldNoneRow.targs := of_decide_eq_true (by kernel_rfl)
theorem nK3 : Tryz.f5.isWrapper Tryz.prog Rows.worldNoneRow.wrapper Rows.worldNoneRow.mainSum := by unfold Func.isWrapper; first | (rw [if_pos (by decide +kernel)]; kernel_rfl) | (rw [if_neg (by decide +kernel)]; exact ⟨rfl, rfl⟩)
theorem worldNone_holds : Rows.WorldNoneSaid :=
  OpenClaim.holds_of_wide 5 Tryz.f5 rfl rfl rfl rfl rfl rfl rfl ⟨rfl, rfl, rfl, rfl, rfl⟩ rfl rfl rfl rfl rfl nK1 Tryz.func5 closed5 nK2 nK3
    (fun os started H enc _ => worldNone_lifted os started H enc Go.Ev.fixedCalls)
theorem worldNone_card : Rows.WorldNoneCardSaid :=
  Claim7.holds_tied_plain_at .later [] [.pinned, .data, .pinned, .sentinel, .sentinel, .data, .data, .data, .data, .data] true (true, "46ccc188bda37ae463570f5de8e491189e382c20b68c7864c4dd732a0b700e05") true worldNone_holds (fun _ h => by cases h) nL3 (fun _ h => by cases h) worldNone_row_tie rfl ⟨rfl, rfl⟩ nL4 rfl
    (fun f fn hf hfn => by
      obtain rfl : f = 5 := Option.some.inj (nK1.symm.trans hf) |>.symm
      obtain rfl : fn = Tryz.f5 := (Option.some.inj (Tryz.func5.symm.trans hfn)).symm
      exact ⟨nL1, fun j t ht => by
        rw [Tryz.params5] at ht
        have hm : t ∈ [49] := by simpa using Array.mem_of_getElem? ht
        have hall : ([49].all fun u => !Tryz.prog.wantsStandIn u) = true := by kernel_rfl
        exact (show Tryz.prog.wantsStandIn t = false by simpa using List.all_eq_true.1 hall t hm)⟩)
    nL2
#print axioms worldNone_card
end Go.Proofs.YtcjpaobmdfnpiaaGreatDoor
end
