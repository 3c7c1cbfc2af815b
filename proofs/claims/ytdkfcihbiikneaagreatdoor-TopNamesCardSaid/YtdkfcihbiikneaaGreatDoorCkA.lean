/- The summaries hold, each checked by the kernel's own reckoning; no condition. -/
import Derived.Test.YtdkfcihbiikneaaGreatDoorSums
set_option maxRecDepth 1000000
namespace Go.Ev
theorem sRead_check : sRead.check Pg xk [
    ] 60 [411, 605, 538, 177, 370, 553, 597] = true := by kernel_rfl
theorem sRun_check : sRun.check Pg xk [
    ⟨sStart, 11, [0, 1, 2, 3, 4, 5, 6]⟩,
    ⟨sMRun, 44, [0, 1, 2, 3, 4, 5, 6, 11, 12, 13, 14, 15, 16, 17, 18, 19, 20, 21, 22, 23, 24, 25, 26, 27, 28, 29, 30, 31, 32, 33, 34, 35, 36, 37, 38, 39, 40, 41]⟩] 60 [53] = true := by kernel_rfl
theorem sJudge_check : sJudge.check Pg xk [
    ⟨sStart, 8, [0, 1, 2, 3, 4, 5, 6]⟩,
    ⟨sStart, 43, [0, 1, 2, 3, 4, 5, 6]⟩,
    ⟨sMRun, 76, [0, 1, 2, 3, 4, 5, 6, 43, 44, 45, 46, 47, 48, 49, 50, 51, 52, 53, 54, 55, 56, 57, 58, 59, 60, 61, 62, 63, 64, 65, 66, 67, 68, 69, 70, 71, 72, 73]⟩,
    ⟨sMeant, 87, [0, 1, 2, 3, 4, 5, 6]⟩,
    ⟨sRun, 92, [0, 1, 2, 3, 4, 5, 6]⟩] 60 [] = true := by kernel_rfl
theorem sLives_check : sLives.check Pg xk [
    ⟨sRun, 59, [0, 1, 2, 3, 4, 5, 6]⟩,
    ⟨sJudge, 124, [0, 1, 2, 3, 4, 5, 6]⟩] 60 [] = true := by kernel_rfl
theorem sTop_check : sTop.check Pg xk [
    ⟨sLives, 9, [0, 1, 2, 3, 4, 5, 6]⟩] 60 [] = true := by kernel_rfl
end Go.Ev
