/- One call, run by the kernel. Conditions: none. -/
import Derived.KernelRfl
import Derived.Test.YtcjpaobmdfnpiaaGreatDoorAll
import Derived.Test.YtcjpaobmdfnpiaaGreatDoorMe2
set_option linter.all false
section
set_option linter.unusedVariables false
set_option maxRecDepth 100000
set_option maxHeartbeats 4000000
namespace Go.Ev
theorem wr3 : callM cx0 tb0 [we2, we1, we0] 100 7 [(.s (.p 2073 0)), (.s (.i .i64 (.ofNat 0))), (.s (.i .i64 (.ofNat 0))), (.s (.st [50]))] wi3 (meK (.p (.s (.i .i64 (.ofNat 201))) (.p (.s (.i .i64 (.ofNat 0))) .u)) wx3) meP = okk := by kernel_rfl
end Go.Ev
end
