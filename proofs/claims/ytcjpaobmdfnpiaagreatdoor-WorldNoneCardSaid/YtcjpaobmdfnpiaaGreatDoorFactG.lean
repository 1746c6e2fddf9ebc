/- Closed facts of the row. Conditions: none. -/
import Derived.Test.YtcjpaobmdfnpiaaGreatDoorRows
import Derived.ProofKit
import Derived.Lay
import Derived.PinnedBridge
import Derived.LaidLaws
import Derived.SevenTiedAt
set_option linter.all false
section
set_option linter.unusedVariables false
namespace Go.Proofs.YtcjpaobmdfnpiaaGreatDoor
open Go.ChangeShapes Go.WideShapes Go.ChangeAt Go.RowKit
theorem nJ3 : mapsRowed Tryz.prog = true := by kernel_rfl
end Go.Proofs.YtcjpaobmdfnpiaaGreatDoor
end
