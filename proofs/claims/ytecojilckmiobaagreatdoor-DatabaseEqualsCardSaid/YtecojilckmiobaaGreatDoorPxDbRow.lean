/- Shows a part of the walk of the law; its conditions stand ahead of each theorem. -/
import Derived.Test.YtecojilckmiobaaGreatDoorPxDbGI
import Derived.ProofKit
import Derived.LaidMore
import Derived.Stop.Joined
import Derived.Test.YtecojilckmiobaaGreatDoorCards
import Derived.Test.YtecojilckmiobaaGreatDoorTie
import Derived.SevenTiedAt
import Derived.LaidOnce
set_option linter.unusedVariables false
set_option maxRecDepth 1000000
namespace Go.Px.Db
open Go Go.Proofs Go.Proofs.YtecojilckmiobaaGreatDoor Go.ChangeShapes Go.WideShapes Go.ChangeAt
noncomputable section

def firstVals : Array Value := match Go.Pinned.utf8First with
  | .agg ds => (ds.map fun d => match d with | .lit (.int k n) => Value.int k n | _ => .int .u8 0).toArray
  | _ => #[]
/-- The start of the witness: the heap that the door's run leaves, the pinned table laid besides. -/
def wit (os : Os) : World :=
  let w := World.doorLaid Tryz.prog 96 os
  { w with heap := w.heap.modify 8 fun o => match o with | .cells _ t fr => .cells firstVals t fr | o => o }

theorem laidMet_of_bits {P : Program} {w : World} {l : List (String × DataW Unit)} (M fuel : Nat)
    (h : ((DataW.laidRun P w fuel (l.map (·.1))).bind fun x => bif nodupBits M x.2 0 && laidRowsB P w x.2 then some x.1 else none) = some l) : laidMet P l w := by
  cases hx : DataW.laidRun P w fuel (l.map (·.1)) with
  | none => simp [hx] at h
  | some x =>
    rw [hx, Option.bind_some] at h
    cases hb : (nodupBits M x.2 0 && laidRowsB P w x.2) with
    | false => rw [hb] at h; cases h
    | true =>
      rw [hb] at h
      injection h with h
      simp only [Bool.and_eq_true] at hb
      exact laidMet_of_run (ps := x.2) fuel (by rw [hx, ← h]) (decide_eq_true (nodupBits_sound hb.1).1) hb.2
theorem wit_met (os : Os) (args : Array Value) : laidMetH Tryz.prog laidL ((wit os).forCall (fun _ _ => 0) ⟨#[], args, []⟩).memory := by
  rw [MakeChecks.laidMetH_plain _ _ _ (by kernel_rfl)]
  exact laidMet_of_bits 257 8 (by kernel_rfl)

/-- The zero value of a database. -/
def zeroDb : Value := .agg (#[.int .i64 0, .int .i64 0] ++ (Array.replicate 27 (.slice none 0 0)))
theorem own : ownKnob Tryz.prog.godebug = none := by kernel_rfl
theorem laidOut : laidOutB Tryz.prog = true := by kernel_rfl

theorem law_lifted {s : ChangeSpec} {f : FuncId} {fn : Func} (shs : List Sh) (hfn : Tryz.prog.funcs[f]? = some fn) (noInit : Tryz.prog.inits.idxOf? f = none) (hsh : fn.params.toList.map (shOf Tryz.prog 9) = shs.map some)
    (hread : (fn.params.toList.all fun t => Tryz.prog.readableRec t && Nat.blt t Tryz.prog.types.size) = true) (hres : fn.resultTypes = #[4]) (hvars : s.vars = [])
    (hspec : ∀ (H : Type) (ds : List (DataW H)), ds.length = fn.params.toList.length → s.fn H ds = ⟨[.lit (.bool true)], ds, []⟩) (law : ∀ m vs, HasArgs shs vs → AF (env m) f vs (.bool true))
    (os : Os) (started : os.Started) (H : Type) (enc : TypeId × Value → H)
    (witness : ∃ (w : World) (tape : Tape) (i : Input), w.os = os ∧ (w.forCall tape i).Shaped Tryz.checked.prog ∧ i.vars = [] ∧ Input.okWide Tryz.checked.prog (w.forCall tape i) .any w.heap.size f i ∧
      ((s.pre enc Tryz.checked.prog fn [] false (w.forCall tape i).memory i.args ∧ (fun w _ => laidMetH Tryz.prog laidL w) (w.forCall tape i).memory i.args) ∧ sizedMet enc Tryz.checked.prog fn (OpenSpec.ofChange s) false (w.forCall tape i).memory i.args) ∧ ({} : Assume).holds Tryz.checked.prog (lone (Frame.enter Tryz.checked.prog f i.args .normal) [] (w.forCall tape i))) :
    ReturnsInHanded {} Tryz.checked os f .any (fun w args => (s.pre enc Tryz.prog fn [] false w args ∧ laidMetH Tryz.prog laidL w) ∧ sizedMet enc Tryz.prog fn (OpenSpec.ofChange s) false w args)
      (s.post enc Tryz.prog fn false true false false) := by
  refine returnsInHanded_laid_shaped (C := Tryz.checked) (X := fun w _ => laidMetH Tryz.prog laidL w) (fun _ _ _ hh h => h.of_heap hh) own started noInit hfn witness ?_
  intro W base args ds gs before hval hW hsh' hL
  obtain ⟨m, hGI⟩ := laid_GI hsh' hL
  exact law_calls (env m) laidOut shs hsh hread 4 hres (by kernel_rfl) hvars (hspec H) (law m) W base args ds gs before hGI hval hW
end
end Go.Px.Db
