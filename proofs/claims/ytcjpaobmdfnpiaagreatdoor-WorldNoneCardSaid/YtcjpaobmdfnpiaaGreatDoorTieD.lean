/- Closed facts of the tie. Conditions: none. -/
import Derived.LaidByTextLater
import Derived.LaidOnce
import Derived.KernelRfl
import Derived.Test.YtcjpaobmdfnpiaaGreatDoorTieW
set_option linter.all false
section
namespace Go.Proofs.YtcjpaobmdfnpiaaGreatDoor
open Go
noncomputable def door2 (R : Stepped) : Bool := match R with
  | .ended (.done _) w => (DataW.laidRun Tryz.prog w.memory 8 ((laidT.filter fun x => x.2.handleName?.isNone).map (·.1))).elim false fun x => nodupBits 1000 x.2 0 && laidRowsB Tryz.prog w.memory x.2 && (laidT.filter fun x => x.2.handleName?.isSome && x.2.funcsIn?.isNone).all (handleAtB Tryz.prog w.memory)
  | _ => false
theorem trun2 (os : Os) (tape : Tape) : door2 (runN Tryz.prog 400 (Machine.entering Tryz.prog (world0 os) tape (varsId Tryz.prog) ⟨#[], #[], []⟩)) = true := by kernel_rfl
end Go.Proofs.YtcjpaobmdfnpiaaGreatDoor
end
