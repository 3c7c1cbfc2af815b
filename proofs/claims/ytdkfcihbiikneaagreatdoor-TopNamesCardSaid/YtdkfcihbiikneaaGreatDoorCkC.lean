/- The summaries hold, each checked by the kernel's own reckoning; no condition. -/
import Derived.Test.YtdkfcihbiikneaaGreatDoorSums
set_option maxRecDepth 1000000
namespace Go.Ev
theorem sMRun_check : sMRun.check Pg xk [
    ] 60 [558, 136, 138, 132, 134, 151, 50, 130] = true := by kernel_rfl
end Go.Ev
