/- One call, run by the kernel. Conditions: none. -/
import Derived.KernelRfl
import Derived.Test.YtcjpaobmdfnpiaaGreatDoorAll
import Derived.Test.YtcjpaobmdfnpiaaGreatDoorMe2
set_option linter.all false
section
set_option linter.unusedVariables false
set_option maxRecDepth 100000
set_option maxHeartbeats 4000000
namespace Go.Ev
theorem wr0 : callM cx0 tb0 [] 100 25 [(.s (.p 4 0)), (.s (.i .i64 (.ofNat 100)))] wi0 (meK (.p (.s (.p 1060 0)) (.p (.s (.i .i64 (.ofNat 0))) .u)) wx0) meP = okk := by kernel_rfl
end Go.Ev
end
