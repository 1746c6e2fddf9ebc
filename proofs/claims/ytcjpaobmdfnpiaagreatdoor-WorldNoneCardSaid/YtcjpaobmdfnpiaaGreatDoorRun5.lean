/- One call, run by the kernel. Conditions: none. -/
import Derived.Test.YtcjpaobmdfnpiaaGreatDoorRun0
import Derived.Test.YtcjpaobmdfnpiaaGreatDoorRun1
import Derived.Test.YtcjpaobmdfnpiaaGreatDoorRun2
import Derived.Test.YtcjpaobmdfnpiaaGreatDoorRun3
import Derived.Test.YtcjpaobmdfnpiaaGreatDoorRun4
import Derived.Test.YtcjpaobmdfnpiaaGreatDoorEv8
set_option linter.all false
section
set_option linter.unusedVariables false
set_option maxRecDepth 100000
set_option maxHeartbeats 4000000
namespace Go.Ev
open Go Go.Proofs
theorem wo0 : ∀ m ∈ ([] : List Me), MeOk Tryz.prog m := fun m h => nomatch h
theorem wo1 : ∀ m ∈ [we0], MeOk Tryz.prog m := List.forall_mem_cons.2 ⟨MeOk.of_run (callM_ok tab_ok wo0 100) wr0, wo0⟩
theorem wo2 : ∀ m ∈ [we1, we0], MeOk Tryz.prog m := List.forall_mem_cons.2 ⟨MeOk.of_run (callM_ok tab_ok wo1 100) wr1, wo1⟩
theorem wo3 : ∀ m ∈ [we2, we1, we0], MeOk Tryz.prog m := List.forall_mem_cons.2 ⟨MeOk.of_run (callM_ok tab_ok wo2 100) wr2, wo2⟩
theorem wo4 : ∀ m ∈ [we3, we2, we1, we0], MeOk Tryz.prog m := List.forall_mem_cons.2 ⟨MeOk.of_run (callM_ok tab_ok wo3 100) wr3, wo3⟩
theorem wo5 : ∀ m ∈ [we4, we3, we2, we1, we0], MeOk Tryz.prog m := List.forall_mem_cons.2 ⟨MeOk.of_run (callM_ok tab_ok wo4 100) wr4, wo4⟩
theorem fixedRun : callM cx0 tb0 [we4, we3, we2, we1, we0] 100 16 [] (.mk .nil 0) (meK (.s (.b true)) (.mk .nil 3292)) meP = okk := by kernel_rfl
theorem fixedMe : MeOk Tryz.prog (.mk 16 [] (.mk .nil 0) (.s (.b true)) (.mk .nil 3292)) := MeOk.of_run (callM_ok tab_ok wo5 100) fixedRun
/-- The examples of the law's own file hold, in every world whose two given blocks stand. -/
theorem fixedCalls {w : World} (hf : FreeC w.heap) : Calls Tryz.prog 16 #[] w fun e w' => e = .returned (.bool true) ∧ FreeC w'.heap ∧ RowKit.Below w.heap.size w w' := by
  refine (calls_of_me fixedMe (fn := Tryz.f16) rfl rfl rfl .nil hf).mono ?_
  rintro e w' ⟨ρ', x, rfl, hx, -, h1, h2⟩
  exact ⟨by rw [hx.bool_inv], h1, h2⟩
end Go.Ev
end
