/- Closed facts of the tie. Conditions: none. -/
import Derived.KernelRfl
import Derived.Test.YtcjpaobmdfnpiaaGreatDoorTieW
set_option linter.all false
section
namespace Go.Proofs.YtcjpaobmdfnpiaaGreatDoor
open Go
theorem unlaid_eq (os : Os) : World.unlaid Tryz.prog os = world0 os := by kernel_rfl
end Go.Proofs.YtcjpaobmdfnpiaaGreatDoor
end
