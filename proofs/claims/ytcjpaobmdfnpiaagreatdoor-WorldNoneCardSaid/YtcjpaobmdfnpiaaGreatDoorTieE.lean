/- Closed facts of the tie. Conditions: none. -/
import Derived.LaidByTextLater
import Derived.LaidOnce
import Derived.KernelRfl
import Derived.Test.YtcjpaobmdfnpiaaGreatDoorTieW
set_option linter.all false
section
namespace Go.Proofs.YtcjpaobmdfnpiaaGreatDoor
open Go
noncomputable def door3 (R : Stepped) : Option (List (DataW (List UInt8))) := match R with
  | .ended (.done _) w => funcsRun Tryz.prog w.memory 8 ((funcsListed laidT).map (·.1))
  | _ => none
theorem trun3 (os : Os) (tape : Tape) : door3 (runN Tryz.prog 400 (Machine.entering Tryz.prog (world0 os) tape (varsId Tryz.prog) ⟨#[], #[], []⟩)) = some ((funcsListed laidT).map (·.2.funcsOut)) := by kernel_rfl
end Go.Proofs.YtcjpaobmdfnpiaaGreatDoor
end
