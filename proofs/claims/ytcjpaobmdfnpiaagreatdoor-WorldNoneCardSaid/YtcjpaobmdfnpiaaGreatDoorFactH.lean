/- Closed facts of the row. Conditions: none. -/
import Derived.KernelRfl
import Derived.Test.YtcjpaobmdfnpiaaGreatDoorClo
set_option linter.all false
section
namespace Go.Proofs.YtcjpaobmdfnpiaaGreatDoor
theorem nJ12 : (Rows.worldNoneRow.inPlace == Tryz.prog.inPlace 5) = true := by
  unfold Program.inPlace
  rw [clos5_ok]
  kernel_rfl
end Go.Proofs.YtcjpaobmdfnpiaaGreatDoor
end
