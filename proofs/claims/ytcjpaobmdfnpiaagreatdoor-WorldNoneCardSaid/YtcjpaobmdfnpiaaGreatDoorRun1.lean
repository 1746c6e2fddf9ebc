/- One call, run by the kernel. Conditions: none. -/
import Derived.KernelRfl
import Derived.Test.YtcjpaobmdfnpiaaGreatDoorAll
import Derived.Test.YtcjpaobmdfnpiaaGreatDoorMe2
set_option linter.all false
section
set_option linter.unusedVariables false
set_option maxRecDepth 100000
set_option maxHeartbeats 4000000
namespace Go.Ev
theorem wr1 : callM cx0 tb0 [we0] 100 7 [(.s (.p 1061 0)), (.s (.i .i64 (.ofNat 0))), (.s (.i .i64 (.ofNat 0))), (.s (.st [49]))] wi1 (meK (.p (.s (.i .i64 (.ofNat 201))) (.p (.s (.i .i64 (.ofNat 0))) .u)) wx1) meP = okk := by kernel_rfl
end Go.Ev
end
