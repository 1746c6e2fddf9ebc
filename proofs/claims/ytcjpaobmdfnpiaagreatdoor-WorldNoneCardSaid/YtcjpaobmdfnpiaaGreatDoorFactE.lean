/- Closed facts of the row. Conditions: none. -/
import Derived.Test.YtcjpaobmdfnpiaaGreatDoorRows
import Derived.ProofKit
import Derived.KernelRfl
set_option linter.all false
section
namespace Go.Proofs.YtcjpaobmdfnpiaaGreatDoor
theorem lo3 : (List.range' 555 186).all (rowFine Tryz.prog) = true := by kernel_rfl
theorem lo4 : Tryz.prog.types.size = 741 := by kernel_rfl
theorem lo5 : Tryz.prog.globals.all (fun g => decide (g.type < Tryz.prog.types.size)) = true := by kernel_rfl
theorem lo6 : Tryz.prog.funcs.all (fun f => f.params.all fun t => decide (t < Tryz.prog.types.size)) = true := by kernel_rfl
end Go.Proofs.YtcjpaobmdfnpiaaGreatDoor
end
