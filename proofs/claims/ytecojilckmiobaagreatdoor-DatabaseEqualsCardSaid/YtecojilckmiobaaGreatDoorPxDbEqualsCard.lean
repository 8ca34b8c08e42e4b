/- 'unicodetextlaw12.DatabaseEquals': for every input the call returns true, and each argument reads behind the call as it read before. Conditions: the listed package-level variables of Go's library hold what the program's text lays in them (the tied card's own premise); nothing else. -/
import Derived.Test.YtecojilckmiobaaGreatDoorPxDbQ7
import Derived.Test.YtecojilckmiobaaGreatDoorPxDbRowF

set_option linter.unusedVariables false
set_option maxRecDepth 1000000
namespace Go.Proofs.YtecojilckmiobaaGreatDoor
open Go Go.Px Go.Px.Db Go.ChangeShapes Go.WideShapes Go.ChangeAt
noncomputable section
namespace DatabaseEquals
abbrev P : Program := Tryz.prog
abbrev f : FuncId := 9
abbrev fn : Func := Tryz.f9
abbrev s : ChangeSpec := Rows.databaseEqualsSpec
abbrev c : OpenClaim := Rows.databaseEqualsRow
theorem j0 : (c.wf (OpenSpec.ofChange s)) = true := by kernel_rfl
theorem j3 : (fn.params.all (P.readableRec ·)) = true := by kernel_rfl
theorem j4 : (namedTie P c.named s.vars) = true := by kernel_rfl
theorem j5 : ((c.stops == [])) = true := by kernel_rfl
theorem j7 : ((c.knobs == [])) = true := by kernel_rfl
theorem j9 : ((c.inPlace == P.inPlace f)) = true := by kernel_rfl
theorem j10 : ((c.unfollowed == P.unfollowed f)) = true := by kernel_rfl
theorem j11 : ((c.recurses == P.recurses f)) = true := by kernel_rfl
theorem j12 : ((c.named == P.varsNamed f)) = true := by kernel_rfl
theorem j13 : ((c.maps == (fn.params.toList ++ s.plain.varTypes P).any (P.mapsRec ·))) = true := by kernel_rfl
theorem j14 : ((c.ifaces == (fn.params.toList ++ s.plain.varTypes P).any (P.ifacesRec ·))) = true := by kernel_rfl
theorem j15 : ((c.mapsOut == P.mapsAmong fn.resultTypes.toList)) = true := by kernel_rfl
theorem j16 : ((c.loops == (fn.params.toList ++ s.plain.varTypes P).any (P.loopsFrom ·))) = true := by kernel_rfl
theorem j17 : ((c.wideKeys == (fn.params.toList ++ s.plain.varTypes P ++ fn.resultTypes.toList).any (P.wideKeysFrom ·))) = true := by kernel_rfl
theorem j18 : (s.vars.all (P.varReadable ·)) = true := by kernel_rfl
theorem j19 : (fn.resultTypes.all (fun t => P.readableRec t && decide (t < P.types.size))) = true := by kernel_rfl
theorem j20 : ((c.ifacesOut == fn.resultTypes.toList.any (P.ifacesRec ·))) = true := by kernel_rfl
theorem j21 : ((c.loopsOut == fn.resultTypes.toList.any (P.loopsFrom ·))) = true := by kernel_rfl
theorem j22 : ((c.plainKeys == P.plainKeys)) = true := by kernel_rfl
theorem j23 : (c.shortTexts.isNone) = true := by kernel_rfl
theorem j26 : ((c.lifted == P.liftsFinal)) = true := by kernel_rfl
theorem j27 : ((P.make == some c.make)) = true := by kernel_rfl
theorem j28 : ((c.kinds == (if c.domain.isEmpty then [] else fn.params.toList.map fun t => match P.underlying t with | some (.int k) => some k | _ => none))) = true := by kernel_rfl
theorem j29 : ((c.pinned == c.pinnedBy)) = true := by kernel_rfl
theorem j30 : ((c.veiled == (fn.params.toList ++ s.plain.varTypes P ++ fn.resultTypes.toList).any (P.veiledRec ·))) = true := by kernel_rfl
theorem j31 : (c.veiledFits P fn.params.toList (fn.params.toList ++ s.plain.varTypes P ++ fn.resultTypes.toList)) = true := by kernel_rfl
theorem joined : joinedFacts P f fn s c = true := (and_mk (and_mk (and_mk (and_mk (and_mk (and_mk (and_mk (and_mk (and_mk (and_mk (and_mk (and_mk (and_mk (and_mk (and_mk (and_mk (and_mk (and_mk (and_mk (and_mk (and_mk (and_mk (and_mk (and_mk (and_mk (and_mk (and_mk (and_mk (and_mk (and_mk (and_mk j0 laidOut) pf_maps) j3) j4) j5) pf_stops) j7) pf_knobs) j9) j10) j11) j12) j13) j14) j15) j16) j17) j18) j19) j20) j21) j22) j23) pf_heard) pf_enter) j26) j27) j28) j29) j30) j31)
theorem hsh : fn.params.toList.map (shOf P 9) = [shDb, shDb].map some := by kernel_rfl
theorem hread : (fn.params.toList.all fun t => P.readableRec t && Nat.blt t P.types.size) = true := by kernel_rfl
theorem noInit : P.inits.idxOf? f = none := by kernel_rfl
theorem w_ok (os : Os) : Input.okWideB P ((wit os).forCall (fun _ _ => 0) ⟨#[], #[zeroDb, zeroDb], []⟩) f ⟨#[], #[zeroDb, zeroDb], []⟩ = true := by kernel_rfl
theorem w_pre (os : Os) (H : Type) (enc : TypeId × Value → H) : s.preB enc P fn [] false ((wit os).forCall (fun _ _ => 0) ⟨#[], #[zeroDb, zeroDb], []⟩).memory #[zeroDb, zeroDb] 8 = true := by kernel_rfl
theorem w_sz (os : Os) (H : Type) (enc : TypeId × Value → H) : s.sizedB enc P fn false ((wit os).forCall (fun _ _ => 0) ⟨#[], #[zeroDb, zeroDb], []⟩).memory #[zeroDb, zeroDb] 8 = true := by kernel_rfl
theorem lifted (os : Os) (started : os.Started) (H : Type) (enc : TypeId × Value → H) :
    ReturnsInHanded {} Tryz.checked os f .any (fun w args => (s.pre enc P fn [] false w args ∧ laidMetH P laidL w) ∧ sizedMet enc P fn (OpenSpec.ofChange s) false w args)
      (s.post enc P fn false true false false) :=
  law_lifted [shDb, shDb] Tryz.func9 noInit hsh hread rfl rfl (fun H ds hl => match ds, hl with | [d1, d2], _ => rfl) law_equals os started H enc
    (ChangeSpec.witness_shaped (enc := enc) (C := Tryz.checked) (os := os) (X := fun w _ => laidMetH Tryz.prog laidL w) false (wit os) #[zeroDb, zeroDb] 8 rfl (wit_shaped os _) (w_ok os) (w_pre os H enc) (w_sz os H enc) (wit_met os _))
theorem named : P.funcNamed c.func = some f := by kernel_rfl
theorem isInst : fn.isInstance P c.origin c.targs := of_decide_eq_true (by kernel_rfl)
theorem isWrap : fn.isWrapper P c.wrapper c.mainSum := by unfold Func.isWrapper; first | (rw [if_pos (by decide +kernel)]; kernel_rfl) | (rw [if_neg (by decide +kernel)]; exact ⟨rfl, rfl⟩)
theorem byText : c.wfByText (OpenSpec.ofChange s) = true := by kernel_rfl
theorem goes : false = c.goesBy P := by kernel_rfl
theorem row : Rows.DatabaseEqualsSaid :=
  OpenClaim.holds_of_wide f fn rfl rfl rfl rfl rfl rfl rfl ⟨rfl, rfl, rfl, rfl, rfl⟩ rfl rfl rfl rfl rfl named Tryz.func9 joined isInst isWrap (fun os started H enc _ => lifted os started H enc)
end DatabaseEquals
theorem databaseEquals_holds : Rows.DatabaseEqualsCardSaid :=
  Claim7.holds_tied_plain_at .later [] [.data, .data, .data, .data, .sentinel, .sentinel, .listed, .data, .pinned] true (true, "0d11689f7d3e49d3230cc851ac358f554c7b4c267cb99e1e81a918926f8a94d2") true
    DatabaseEquals.row (fun _ h => by cases h) DatabaseEquals.byText (fun _ h => by cases h) databaseEquals_row_tie rfl ⟨rfl, rfl⟩ pf_main rfl
    (fun f fn hf hfn => by
      obtain rfl : f = 9 := Option.some.inj (DatabaseEquals.named.symm.trans hf) |>.symm
      obtain rfl : fn = Tryz.f9 := (Option.some.inj (Tryz.func9.symm.trans hfn)).symm
      exact ⟨pf_looks, fun j t ht => by
        rw [show Tryz.f9.params = #[39, 39] from rfl] at ht
        rcases j with _ | _ | j
        · obtain rfl : t = 39 := by simpa using ht.symm
          exact pf_want39
        · obtain rfl : t = 39 := by simpa using ht.symm
          exact pf_want39
        · simp at ht⟩)
    DatabaseEquals.goes
#print axioms databaseEquals_holds
end
end Go.Proofs.YtecojilckmiobaaGreatDoor
