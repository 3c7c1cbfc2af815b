/- The summaries hold, each checked by the kernel's own reckoning; no condition. -/
import Derived.Test.YtdkfcihbiikneaaGreatDoorSums
set_option maxRecDepth 1000000
namespace Go.Ev
theorem sMeant_check : sMeant.check Pg xk [
    ⟨sRead, 8, [0, 1, 2, 3, 4, 5, 6]⟩] 60 [849] = true := by kernel_rfl
end Go.Ev
