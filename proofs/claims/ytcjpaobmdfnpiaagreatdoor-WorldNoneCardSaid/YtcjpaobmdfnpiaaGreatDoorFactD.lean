/- Closed facts of the row. Conditions: none. -/
import Derived.Test.YtcjpaobmdfnpiaaGreatDoorRows
import Derived.ProofKit
import Derived.KernelRfl
import Derived.Test.YtcjpaobmdfnpiaaGreatDoorRows
import Derived.Test.YtcjpaobmdfnpiaaGreatDoorRows
set_option linter.all false
section
namespace Go.Proofs.YtcjpaobmdfnpiaaGreatDoor
theorem lo0 : (List.range' 0 185).all (rowFine Tryz.prog) = true := by kernel_rfl
end Go.Proofs.YtcjpaobmdfnpiaaGreatDoor
end
section
namespace Go.Proofs.YtcjpaobmdfnpiaaGreatDoor
theorem lo1 : (List.range' 185 185).all (rowFine Tryz.prog) = true := by kernel_rfl
end Go.Proofs.YtcjpaobmdfnpiaaGreatDoor
end
section
namespace Go.Proofs.YtcjpaobmdfnpiaaGreatDoor
theorem lo2 : (List.range' 370 185).all (rowFine Tryz.prog) = true := by kernel_rfl
end Go.Proofs.YtcjpaobmdfnpiaaGreatDoor
end
