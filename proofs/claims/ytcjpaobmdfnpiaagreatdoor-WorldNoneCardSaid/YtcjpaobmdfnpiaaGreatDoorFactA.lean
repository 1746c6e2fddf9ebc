/- Closed facts of the row. Conditions: none. -/
import Derived.Test.YtcjpaobmdfnpiaaGreatDoorRows
import Derived.ProofKit
import Derived.Lay
import Derived.PinnedBridge
import Derived.LaidLaws
import Derived.SevenTiedAt
import Derived.Test.YtcjpaobmdfnpiaaGreatDoorRows
import Derived.Test.YtcjpaobmdfnpiaaGreatDoorRows
import Derived.Test.YtcjpaobmdfnpiaaGreatDoorRows
import Derived.Test.YtcjpaobmdfnpiaaGreatDoorRows
import Derived.Test.YtcjpaobmdfnpiaaGreatDoorRows
import Derived.Test.YtcjpaobmdfnpiaaGreatDoorRows
set_option linter.all false
section
set_option linter.unusedVariables false
namespace Go.Proofs.YtcjpaobmdfnpiaaGreatDoor
open Go.ChangeShapes Go.WideShapes Go.ChangeAt Go.RowKit
theorem nJ1 : Rows.worldNoneRow.wf (OpenSpec.ofChange Rows.worldNoneSpec) = true := by kernel_rfl
end Go.Proofs.YtcjpaobmdfnpiaaGreatDoor
end
section
set_option linter.unusedVariables false
namespace Go.Proofs.YtcjpaobmdfnpiaaGreatDoor
open Go.ChangeShapes Go.WideShapes Go.ChangeAt Go.RowKit
theorem nJ4 : Tryz.f5.params.all (Tryz.prog.readableRec ·) = true := by kernel_rfl
theorem nJ5 : namedTie Tryz.prog Rows.worldNoneRow.named Rows.worldNoneSpec.vars = true := by kernel_rfl
theorem nJ9 : (Tryz.prog.stops == []) = true := by kernel_rfl
theorem nJ11 : (Tryz.prog.stopKnobs == []) = true := by kernel_rfl
end Go.Proofs.YtcjpaobmdfnpiaaGreatDoor
end
section
set_option linter.unusedVariables false
namespace Go.Proofs.YtcjpaobmdfnpiaaGreatDoor
open Go.ChangeShapes Go.WideShapes Go.ChangeAt Go.RowKit
theorem nR1 : (Rows.worldNoneRow.maps == (Tryz.f5.params.toList ++ Rows.worldNoneSpec.plain.varTypes Tryz.prog).any (Tryz.prog.mapsRec ·)) = true := by kernel_rfl
theorem nR2 : (Rows.worldNoneRow.ifaces == (Tryz.f5.params.toList ++ Rows.worldNoneSpec.plain.varTypes Tryz.prog).any (Tryz.prog.ifacesRec ·)) = true := by kernel_rfl
theorem nR3 : (Rows.worldNoneRow.mapsOut == Tryz.prog.mapsAmong Tryz.f5.resultTypes.toList) = true := by kernel_rfl
theorem nR4 : (Rows.worldNoneRow.loops == (Tryz.f5.params.toList ++ Rows.worldNoneSpec.plain.varTypes Tryz.prog).any (Tryz.prog.loopsFrom ·)) = true := by kernel_rfl
theorem nR5 : (Rows.worldNoneRow.wideKeys == (Tryz.f5.params.toList ++ Rows.worldNoneSpec.plain.varTypes Tryz.prog ++ Tryz.f5.resultTypes.toList).any (Tryz.prog.wideKeysFrom ·)) = true := by kernel_rfl
end Go.Proofs.YtcjpaobmdfnpiaaGreatDoor
end
section
set_option linter.unusedVariables false
namespace Go.Proofs.YtcjpaobmdfnpiaaGreatDoor
open Go.ChangeShapes Go.WideShapes Go.ChangeAt Go.RowKit
theorem nR9 : (Rows.worldNoneRow.lifted == Tryz.prog.liftsFinal) = true := by kernel_rfl
end Go.Proofs.YtcjpaobmdfnpiaaGreatDoor
end
section
set_option linter.unusedVariables false
namespace Go.Proofs.YtcjpaobmdfnpiaaGreatDoor
open Go.ChangeShapes Go.WideShapes Go.ChangeAt Go.RowKit
theorem nR10 : (Tryz.prog.make == some Rows.worldNoneRow.make) = true := by kernel_rfl
theorem nR11 : (Rows.worldNoneRow.pinned == Rows.worldNoneRow.pinnedBy) = true := by kernel_rfl
theorem nR12 : (Rows.worldNoneRow.veiled == (Tryz.f5.params.toList ++ Rows.worldNoneSpec.plain.varTypes Tryz.prog ++ Tryz.f5.resultTypes.toList).any (Tryz.prog.veiledRec ·)) = true := by kernel_rfl
end Go.Proofs.YtcjpaobmdfnpiaaGreatDoor
end
section
set_option linter.unusedVariables false
namespace Go.Proofs.YtcjpaobmdfnpiaaGreatDoor
open Go.ChangeShapes Go.WideShapes Go.ChangeAt Go.RowKit
theorem nL1 : true = Tryz.prog.looks [] := by kernel_rfl
end Go.Proofs.YtcjpaobmdfnpiaaGreatDoor
end
section
set_option linter.unusedVariables false
namespace Go.Proofs.YtcjpaobmdfnpiaaGreatDoor
open Go.ChangeShapes Go.WideShapes Go.ChangeAt Go.RowKit
theorem own : ownKnob Tryz.prog.godebug = none := by kernel_rfl
theorem nL5 : (Rows.worldNoneRow.laid.all fun x => x.2.handleName?.isNone) = true := by kernel_rfl
theorem nL6 : Tryz.prog.inits.idxOf? 5 = none := by kernel_rfl
theorem nL7 : Tryz.prog.readableRec 49 = true := by kernel_rfl
end Go.Proofs.YtcjpaobmdfnpiaaGreatDoor
end
