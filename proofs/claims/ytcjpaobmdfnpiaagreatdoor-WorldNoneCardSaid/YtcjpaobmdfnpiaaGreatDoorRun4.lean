/- One call, run by the kernel. Conditions: none. -/
import Derived.KernelRfl
import Derived.Test.YtcjpaobmdfnpiaaGreatDoorAll
import Derived.Test.YtcjpaobmdfnpiaaGreatDoorMe2
set_option linter.all false
section
set_option linter.unusedVariables false
set_option maxRecDepth 100000
set_option maxHeartbeats 4000000
namespace Go.Ev
theorem wr4 : callM cx0 tb0 [we3, we2, we1, we0] 100 75 [(.s (.p 4 0)), (.s (.i .i64 (.ofNat 100)))] wi4 (meK (.p (.s (.p 3189 0)) (.p (.s (.i .i64 (.ofNat 0))) .u)) wx4) meP = okk := by kernel_rfl
end Go.Ev
end
