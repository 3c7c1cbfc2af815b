/- The summaries hold, each checked by the kernel's own reckoning; no condition. -/
import Derived.Test.YtdkfcihbiikneaaGreatDoorSums
set_option maxRecDepth 1000000
namespace Go.Ev
theorem sStart_check : sStart.check Pg xk [
    ⟨sRead, 25, [0, 1, 2, 3, 4, 5, 6]⟩] 60 [24, 19, 21, 23, 558, 556, 11, 12, 14, 16, 537, 17, 18, 20, 406, 22, 10, 526, 462, 530, 15, 216, 218, 401, 403, 162, 160, 362, 161, 174, 358] = true := by kernel_rfl
end Go.Ev
