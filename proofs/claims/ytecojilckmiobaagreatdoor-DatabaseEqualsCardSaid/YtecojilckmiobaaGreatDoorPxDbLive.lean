/- Shows a part of the walk of the law; its conditions stand ahead of each theorem. -/
import Derived.Test.YtecojilckmiobaaGreatDoorPxDbCheck
set_option linter.unusedVariables false
set_option maxRecDepth 1000000
namespace Go.Px.Db
open Go Go.Px Go.Proofs
noncomputable section
section
variable {m : Int} {E : Env (tab m)}
def kf_alive : Fact := ⟨12, [], .bool true⟩
theorem f_alive (hP : E.P = Tryz.prog) (hT : PowOk E) : CF E 12 [] (.bool true) := runs_CF (l := [kf_parse, kf_check, kf_files]) hP ⟨f_parse hP hT, ⟨f_check hP hT, ⟨f_files hP hT, trivial⟩⟩⟩ (n := 3000) (by kernel_rfl)
end
end
end Go.Px.Db
