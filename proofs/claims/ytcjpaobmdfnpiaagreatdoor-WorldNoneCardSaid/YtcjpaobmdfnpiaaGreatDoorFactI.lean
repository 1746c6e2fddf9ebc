/- Closed facts of the row. Conditions: none. -/
import Derived.KernelRfl
import Derived.Test.YtcjpaobmdfnpiaaGreatDoorClo
set_option linter.all false
section
namespace Go.Proofs.YtcjpaobmdfnpiaaGreatDoor
theorem nJ15 : (Rows.worldNoneRow.named == Tryz.prog.varsNamed 5) = true := by
  unfold Program.varsNamed
  rw [clos5_ok]
  kernel_rfl
end Go.Proofs.YtcjpaobmdfnpiaaGreatDoor
end
