/- Closed facts of the tie. Conditions: none. -/
import Derived.Test.YtcjpaobmdfnpiaaGreatDoorTieA
set_option linter.all false
section
namespace Go.Proofs.YtcjpaobmdfnpiaaGreatDoor
open Go
/-- The world in which the door begins. -/
noncomputable def world0 (os : Os) : World := { heap := #[.cells (List.replicate 256 (.int .u8 0)).toArray 501, .cells (List.replicate 32 (.int .u8 0)).toArray 504, .cells (List.replicate 20 (.int .u64 0)).toArray 558, .cells (List.replicate 1 (.int .i64 0)).toArray 3, .cells (List.replicate 1 (.slice none 0 0)).toArray 610, .cells (List.replicate 1 (.nilIface)).toArray 158, .cells (List.replicate 1 (.nilIface)).toArray 158, .cells (List.replicate 32 (.int .u8 0)).toArray 646, .cells (List.replicate 64 (.int .u8 0)).toArray 647, .cells (List.replicate 128 (.int .u16 0)).toArray 671, .cells (List.replicate 1 (.slice none 0 0)).toArray 672, (World.unlaid Tryz.prog os).heap.toList.getD 11 (.cells #[] 0), .map #[] 0, .finalizers #[] none, .cells #[.bool false] 0, .finalizers #[] none], tape := fun _ _ => 0, drawn := 0, os := os, output := #[] }
end Go.Proofs.YtcjpaobmdfnpiaaGreatDoor
end
