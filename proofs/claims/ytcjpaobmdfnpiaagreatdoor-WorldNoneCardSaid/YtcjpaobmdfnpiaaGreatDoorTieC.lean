/- Closed facts of the tie. Conditions: none. -/
import Derived.LaidByTextLater
import Derived.LaidOnce
import Derived.KernelRfl
import Derived.Test.YtcjpaobmdfnpiaaGreatDoorTieW
set_option linter.all false
section
namespace Go.Proofs.YtcjpaobmdfnpiaaGreatDoor
open Go
noncomputable def door1 (R : Stepped) : Option (List (String × DataW Unit)) := match R with
  | .ended (.done _) w => (DataW.laidRun Tryz.prog w.memory 8 ((laidT.filter fun x => x.2.handleName?.isNone).map (·.1))).map (·.1)
  | _ => none
theorem trun1 (os : Os) (tape : Tape) : door1 (runN Tryz.prog 400 (Machine.entering Tryz.prog (world0 os) tape (varsId Tryz.prog) ⟨#[], #[], []⟩)) = some (laidT.filter fun x => x.2.handleName?.isNone) := by kernel_rfl
end Go.Proofs.YtcjpaobmdfnpiaaGreatDoor
end
