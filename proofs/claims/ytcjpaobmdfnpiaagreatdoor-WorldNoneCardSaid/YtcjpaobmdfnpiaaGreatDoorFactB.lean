/- Closed facts of the row. Conditions: none. -/
import Derived.Test.YtcjpaobmdfnpiaaGreatDoorRows
import Derived.ProofKit
import Derived.Lay
import Derived.PinnedBridge
import Derived.LaidLaws
import Derived.SevenTiedAt
import Derived.Test.YtcjpaobmdfnpiaaGreatDoorRows
import Derived.Test.YtcjpaobmdfnpiaaGreatDoorRows
import Derived.Test.YtcjpaobmdfnpiaaGreatDoorRows
import Derived.Test.YtcjpaobmdfnpiaaGreatDoorRows
import Derived.KernelRfl
import Derived.Test.YtcjpaobmdfnpiaaGreatDoorRows
import Derived.Test.YtcjpaobmdfnpiaaGreatDoorRows
import Derived.Test.YtcjpaobmdfnpiaaGreatDoorRows
set_option linter.all false
section
set_option linter.unusedVariables false
namespace Go.Proofs.YtcjpaobmdfnpiaaGreatDoor
open Go.ChangeShapes Go.WideShapes Go.ChangeAt Go.RowKit
theorem nW3 (os : Os) : Input.okWideB Tryz.prog ((World.laidAll Tryz.prog os Rows.worldNoneRow.laid).forCall (fun _ _ => 0) ⟨#[], #[.agg #[.int .i64 0, .int .i64 0, .string ⟨#[]⟩, .int .i64 0, .slice none 0 0, .slice none 0 0]], []⟩) 5 ⟨#[], #[.agg #[.int .i64 0, .int .i64 0, .string ⟨#[]⟩, .int .i64 0, .slice none 0 0, .slice none 0 0]], []⟩ = true := by kernel_rfl
end Go.Proofs.YtcjpaobmdfnpiaaGreatDoor
end
section
set_option linter.unusedVariables false
namespace Go.Proofs.YtcjpaobmdfnpiaaGreatDoor
open Go.ChangeShapes Go.WideShapes Go.ChangeAt Go.RowKit
theorem nW4 (os : Os) (H : Type) (enc : TypeId × Value → H) : Rows.worldNoneSpec.preB enc Tryz.prog Tryz.f5 [] false ((World.laidAll Tryz.prog os Rows.worldNoneRow.laid).forCall (fun _ _ => 0) ⟨#[], #[.agg #[.int .i64 0, .int .i64 0, .string ⟨#[]⟩, .int .i64 0, .slice none 0 0, .slice none 0 0]], []⟩).memory #[.agg #[.int .i64 0, .int .i64 0, .string ⟨#[]⟩, .int .i64 0, .slice none 0 0, .slice none 0 0]] 8 = true := by kernel_rfl
end Go.Proofs.YtcjpaobmdfnpiaaGreatDoor
end
section
set_option linter.unusedVariables false
namespace Go.Proofs.YtcjpaobmdfnpiaaGreatDoor
open Go.ChangeShapes Go.WideShapes Go.ChangeAt Go.RowKit
theorem nW5 (os : Os) (H : Type) (enc : TypeId × Value → H) : Rows.worldNoneSpec.sizedB enc Tryz.prog Tryz.f5 false ((World.laidAll Tryz.prog os Rows.worldNoneRow.laid).forCall (fun _ _ => 0) ⟨#[], #[.agg #[.int .i64 0, .int .i64 0, .string ⟨#[]⟩, .int .i64 0, .slice none 0 0, .slice none 0 0]], []⟩).memory #[.agg #[.int .i64 0, .int .i64 0, .string ⟨#[]⟩, .int .i64 0, .slice none 0 0, .slice none 0 0]] 8 = true := by kernel_rfl
end Go.Proofs.YtcjpaobmdfnpiaaGreatDoor
end
section
set_option linter.unusedVariables false
namespace Go.Proofs.YtcjpaobmdfnpiaaGreatDoor
open Go.ChangeShapes Go.WideShapes Go.ChangeAt Go.RowKit
theorem nW8 : ((begin Tryz.prog (fun _ _ => 0) default).world.heap[3]?).bind Obj.row? = some (#[.int .i64 0], 3) := by kernel_rfl
theorem nW9 : 3 < Tryz.prog.globals.size := of_decide_eq_true (by kernel_rfl)
theorem nW10 : Tryz.prog.buildable 3 = true := by kernel_rfl
theorem nW11 : Tryz.prog.cellTypes Tryz.prog.depth 3 = some [3] := by kernel_rfl
theorem nW12 : Tryz.prog.globalNamed "internal/strconv.uint64pow10" = some 2 := by kernel_rfl
theorem nW13 : (Tryz.prog.globals[2]?).map (·.type) = some 558 := by kernel_rfl
end Go.Proofs.YtcjpaobmdfnpiaaGreatDoor
end
section
namespace Go.Proofs.YtcjpaobmdfnpiaaGreatDoor
theorem goes0 : (Tryz.prog.funcs.toList.take 164).map Func.goes = List.replicate 164 false := by kernel_rfl
end Go.Proofs.YtcjpaobmdfnpiaaGreatDoor
end
section
namespace Go.Proofs.YtcjpaobmdfnpiaaGreatDoor
theorem goes1 : ((Tryz.prog.funcs.toList.drop 164).take 164).map Func.goes = List.replicate 164 false := by kernel_rfl
end Go.Proofs.YtcjpaobmdfnpiaaGreatDoor
end
section
namespace Go.Proofs.YtcjpaobmdfnpiaaGreatDoor
theorem goes2 : ((Tryz.prog.funcs.toList.drop (164 + 164)).take 164).map Func.goes = List.replicate 164 false := by kernel_rfl
end Go.Proofs.YtcjpaobmdfnpiaaGreatDoor
end
section
namespace Go.Proofs.YtcjpaobmdfnpiaaGreatDoor
theorem goes3 : (Tryz.prog.funcs.toList.drop (164 + 164 + 164)).map Func.goes = List.replicate 164 false := by kernel_rfl
end Go.Proofs.YtcjpaobmdfnpiaaGreatDoor
end
