/- Closed facts of the row. Conditions: none. -/
import Derived.Test.YtcjpaobmdfnpiaaGreatDoorRows
import Derived.ProofKit
import Derived.Lay
import Derived.PinnedBridge
import Derived.LaidLaws
import Derived.SevenTiedAt
set_option linter.all false
section
set_option linter.unusedVariables false
namespace Go.Proofs.YtcjpaobmdfnpiaaGreatDoor
open Go.ChangeShapes Go.WideShapes Go.ChangeAt Go.RowKit
theorem nR6 : (Rows.worldNoneRow.plainKeys == Tryz.prog.plainKeys) = true := by kernel_rfl
theorem nR7 : Tryz.prog.stopsHeard = true := by kernel_rfl
end Go.Proofs.YtcjpaobmdfnpiaaGreatDoor
end
