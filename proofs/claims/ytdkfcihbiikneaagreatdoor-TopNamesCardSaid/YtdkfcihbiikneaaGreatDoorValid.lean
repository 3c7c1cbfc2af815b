/- All summaries hold: what lives() and TopNames come to in any world that has the package's variables. No condition. -/
import Derived.Test.YtdkfcihbiikneaaGreatDoorFacts
import Derived.Test.YtdkfcihbiikneaaGreatDoorCkA
import Derived.Test.YtdkfcihbiikneaaGreatDoorCkB
import Derived.Test.YtdkfcihbiikneaaGreatDoorCkC
import Derived.Test.YtdkfcihbiikneaaGreatDoorCkD
namespace Go.Ev
theorem v_sRead : sRead.Valid Pg := Sm.valid_of ph (fun _ h => by cases h) sRead_check
theorem v_sStart : sStart.Valid Pg := Sm.valid_of ph (by simp only [List.mem_cons, List.not_mem_nil, or_false, forall_eq]; exact v_sRead) sStart_check
theorem v_sMRun : sMRun.Valid Pg := Sm.valid_of ph (fun _ h => by cases h) sMRun_check
theorem v_sRun : sRun.Valid Pg := Sm.valid_of ph (by simp only [List.mem_cons, List.not_mem_nil, or_false, forall_eq_or_imp, forall_eq]; exact ⟨v_sStart, v_sMRun⟩) sRun_check
theorem v_sMeant : sMeant.Valid Pg := Sm.valid_of ph (by simp only [List.mem_cons, List.not_mem_nil, or_false, forall_eq]; exact v_sRead) sMeant_check
theorem v_sJudge : sJudge.Valid Pg := Sm.valid_of ph (by simp only [List.mem_cons, List.not_mem_nil, or_false, forall_eq_or_imp, forall_eq]; exact ⟨v_sStart, v_sStart, v_sMRun, v_sMeant, v_sRun⟩) sJudge_check
theorem v_sLives : sLives.Valid Pg := Sm.valid_of ph (by simp only [List.mem_cons, List.not_mem_nil, or_false, forall_eq_or_imp, forall_eq]; exact ⟨v_sRun, v_sJudge⟩) sLives_check
theorem v_sTop : sTop.Valid Pg := Sm.valid_of ph (by simp only [List.mem_cons, List.not_mem_nil, or_false, forall_eq]; exact v_sLives) sTop_check
end Go.Ev
