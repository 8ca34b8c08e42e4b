/- Shows a part of the walk of the law; its conditions stand ahead of each theorem. -/
import Derived.Test.YtecojilckmiobaaGreatDoorPxDbRow
set_option linter.unusedVariables false
set_option maxRecDepth 1000000
namespace Go.Px.Db
open Go Go.Proofs Go.Proofs.YtecojilckmiobaaGreatDoor Go.ChangeShapes Go.WideShapes Go.ChangeAt
noncomputable section
theorem and_mk {a b : Bool} (ha : a = true) (hb : b = true) : (a && b) = true := by rw [ha, hb]; rfl
theorem wit_shaped (os : Os) (args : Array Value) : ((wit os).forCall (fun _ _ => 0) ⟨#[], args, []⟩).Shaped Tryz.checked.prog := World.shaped_of_RefB (by kernel_rfl) (by kernel_rfl)
def shDb : Sh := (shOf Tryz.prog 9 39).getD .iface
theorem pf_maps : mapsRowed Tryz.prog = true := by kernel_rfl
theorem pf_stops : (Tryz.prog.stops == []) = true := by kernel_rfl
theorem pf_knobs : (Tryz.prog.stopKnobs == []) = true := by kernel_rfl
theorem pf_heard : Tryz.prog.stopsHeard = true := by kernel_rfl
theorem pf_enter : Tryz.prog.mayEnter = true := by kernel_rfl
theorem pf_main : Tryz.prog.mainIs = some (true, "0d11689f7d3e49d3230cc851ac358f554c7b4c267cb99e1e81a918926f8a94d2".toList) := by kernel_rfl
theorem pf_looks : true = Tryz.prog.looks [] := by kernel_rfl
theorem pf_want39 : Tryz.prog.wantsStandIn 39 = false := by kernel_rfl
theorem pf_want3 : Tryz.prog.wantsStandIn 3 = false := by kernel_rfl
theorem pf_want5 : Tryz.prog.wantsStandIn 5 = false := by kernel_rfl
theorem pf_want46 : Tryz.prog.wantsStandIn 46 = false := by kernel_rfl
end
end Go.Px.Db
