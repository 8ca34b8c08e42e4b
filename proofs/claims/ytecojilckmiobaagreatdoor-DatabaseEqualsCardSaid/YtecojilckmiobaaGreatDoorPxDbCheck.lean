/- Shows a part of the walk of the law; its conditions stand ahead of each theorem. -/
import Derived.Test.YtecojilckmiobaaGreatDoorPxDbAlive
set_option linter.unusedVariables false
set_option maxRecDepth 1000000
namespace Go.Px.Db
open Go Go.Px Go.Proofs
noncomputable section
section
variable {m : Int} {E : Env (tab m)}
def kf_check : Fact := ⟨13, [dbA], .int .i64 0⟩
theorem f_check (hP : E.P = Tryz.prog) (hT : PowOk E) : CF E 13 [dbA] (.int .i64 0) := runs_CF (l := [kf_files, kf_mcheck, kf_cvalid, kf_pvalid]) hP ⟨f_files hP hT, ⟨f_mcheck hP hT, ⟨f_cvalid hP hT, ⟨f_pvalid hP hT, trivial⟩⟩⟩⟩ (n := 3000) (by kernel_rfl)
end
end
end Go.Px.Db
