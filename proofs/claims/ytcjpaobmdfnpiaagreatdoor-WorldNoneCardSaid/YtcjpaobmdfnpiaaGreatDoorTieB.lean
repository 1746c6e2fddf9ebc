/- Closed facts of the tie. Conditions: none. -/
import Derived.LaidByTextLater
import Derived.LaidOnce
import Derived.KernelRfl
import Derived.Test.YtcjpaobmdfnpiaaGreatDoorTieA
set_option linter.all false
section
/- Closed facts of the tie, second part. Conditions: none. -/
namespace Go.Proofs.YtcjpaobmdfnpiaaGreatDoor
open Go
theorem tn : varsNamedLaterB Tryz.prog (varsId Tryz.prog) laidT = true := by kernel_rfl
end Go.Proofs.YtcjpaobmdfnpiaaGreatDoor
end
