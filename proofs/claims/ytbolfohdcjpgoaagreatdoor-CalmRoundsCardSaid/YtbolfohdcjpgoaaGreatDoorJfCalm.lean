/- The closed facts of the row of calm, one by one. -/
import Derived.Test.YtbolfohdcjpgoaaGreatDoorCards
import Derived.JoinedCond
set_option linter.unusedSimpArgs false
set_option linter.unusedVariables false
set_option linter.unusedSectionVars false
open Go
namespace Go.Proofs.YtbolfohdcjpgoaaGreatDoor
theorem calmFact0 : (Rows.calmRoundsRow.wf (OpenSpec.ofChange (OpenSpec.ofChange Rows.calmRoundsSpec).bare)) = true := by kernel_rfl
theorem calmFact1 : (laidOutB Tryz.prog) = true := by kernel_rfl
theorem calmFact2 : (mapsRowed Tryz.prog) = true := by kernel_rfl
theorem calmFact3 : (Tryz.f3.params.all (Tryz.prog.readableRec ·)) = true := by kernel_rfl
theorem calmFact4 : (namedTie Tryz.prog Rows.calmRoundsRow.named (OpenSpec.ofChange Rows.calmRoundsSpec).bare.vars) = true := by kernel_rfl
theorem calmFact5 : ((Rows.calmRoundsRow.stops == [])) = true := by kernel_rfl
theorem calmFact6 : ((Tryz.prog.stops == [])) = true := by kernel_rfl
theorem calmFact7 : ((Rows.calmRoundsRow.knobs == [])) = true := by kernel_rfl
theorem calmFact8 : ((Tryz.prog.stopKnobs == [])) = true := by kernel_rfl
theorem calmFact9 : ((Rows.calmRoundsRow.inPlace == Tryz.prog.inPlace 3)) = true := by kernel_rfl
theorem calmFact10 : ((Rows.calmRoundsRow.unfollowed == Tryz.prog.unfollowed 3)) = true := by kernel_rfl
theorem calmFact11 : ((Rows.calmRoundsRow.recurses == Tryz.prog.recurses 3)) = true := by kernel_rfl
theorem calmFact12 : ((Rows.calmRoundsRow.named == Tryz.prog.varsNamed 3)) = true := by kernel_rfl
theorem calmFact13 : ((Rows.calmRoundsRow.maps == (Tryz.f3.params.toList ++ (OpenSpec.ofChange Rows.calmRoundsSpec).bare.plain.varTypes Tryz.prog).any (Tryz.prog.mapsRec ·))) = true := by kernel_rfl
theorem calmFact14 : ((Rows.calmRoundsRow.ifaces == (Tryz.f3.params.toList ++ (OpenSpec.ofChange Rows.calmRoundsSpec).bare.plain.varTypes Tryz.prog).any (Tryz.prog.ifacesRec ·))) = true := by kernel_rfl
theorem calmFact15 : ((Rows.calmRoundsRow.mapsOut == Tryz.prog.mapsAmong Tryz.f3.resultTypes.toList)) = true := by kernel_rfl
theorem calmFact16 : ((Rows.calmRoundsRow.loops == (Tryz.f3.params.toList ++ (OpenSpec.ofChange Rows.calmRoundsSpec).bare.plain.varTypes Tryz.prog).any (Tryz.prog.loopsFrom ·))) = true := by kernel_rfl
theorem calmFact17 : ((Rows.calmRoundsRow.wideKeys == (Tryz.f3.params.toList ++ (OpenSpec.ofChange Rows.calmRoundsSpec).bare.plain.varTypes Tryz.prog ++ Tryz.f3.resultTypes.toList).any (Tryz.prog.wideKeysFrom ·))) = true := by kernel_rfl
theorem calmFact18 : ((OpenSpec.ofChange Rows.calmRoundsSpec).bare.vars.all (Tryz.prog.varReadable ·)) = true := by kernel_rfl
theorem calmFact19 : (Tryz.f3.resultTypes.all (fun t => Tryz.prog.readableRec t && decide (t < Tryz.prog.types.size))) = true := by kernel_rfl
theorem calmFact20 : ((Rows.calmRoundsRow.ifacesOut == Tryz.f3.resultTypes.toList.any (Tryz.prog.ifacesRec ·))) = true := by kernel_rfl
theorem calmFact21 : ((Rows.calmRoundsRow.loopsOut == Tryz.f3.resultTypes.toList.any (Tryz.prog.loopsFrom ·))) = true := by kernel_rfl
theorem calmFact22 : ((Rows.calmRoundsRow.plainKeys == Tryz.prog.plainKeys)) = true := by kernel_rfl
theorem calmFact23 : (Rows.calmRoundsRow.shortTexts.isNone) = true := by kernel_rfl
theorem calmFact24 : (Tryz.prog.stopsHeard) = true := by kernel_rfl
theorem calmFact25 : (Tryz.prog.mayEnter) = true := by kernel_rfl
theorem calmFact26 : ((Rows.calmRoundsRow.lifted == Tryz.prog.liftsFinal)) = true := by kernel_rfl
theorem calmFact27 : ((Tryz.prog.make == some Rows.calmRoundsRow.make)) = true := by kernel_rfl
theorem calmFact28 : ((Rows.calmRoundsRow.kinds == (if Rows.calmRoundsRow.domain.isEmpty then [] else Tryz.f3.params.toList.map fun t => match Tryz.prog.underlying t with | some (.int k) => some k | _ => none))) = true := by kernel_rfl
theorem calmFact29 : ((Rows.calmRoundsRow.pinned == Rows.calmRoundsRow.pinnedBy)) = true := by kernel_rfl
theorem calmFact30 : ((Rows.calmRoundsRow.veiled == (Tryz.f3.params.toList ++ (OpenSpec.ofChange Rows.calmRoundsSpec).bare.plain.varTypes Tryz.prog ++ Tryz.f3.resultTypes.toList).any (Tryz.prog.veiledRec ·))) = true := by kernel_rfl
theorem calmFact31 : (Rows.calmRoundsRow.veiledFits Tryz.prog Tryz.f3.params.toList (Tryz.f3.params.toList ++ (OpenSpec.ofChange Rows.calmRoundsSpec).bare.plain.varTypes Tryz.prog ++ Tryz.f3.resultTypes.toList)) = true := by kernel_rfl
theorem calmBoth {a b : Bool} (h : a = true) (k : b = true) : (a && b) = true := by rw [h, k]; rfl
set_option maxRecDepth 100000 in
theorem calmClosed : joinedFacts Tryz.prog 3 Tryz.f3 (OpenSpec.ofChange Rows.calmRoundsSpec).bare Rows.calmRoundsRow = true := by
  unfold joinedFacts
  exact (calmBoth (calmBoth (calmBoth (calmBoth (calmBoth (calmBoth (calmBoth (calmBoth (calmBoth (calmBoth (calmBoth (calmBoth (calmBoth (calmBoth (calmBoth (calmBoth (calmBoth (calmBoth (calmBoth (calmBoth (calmBoth (calmBoth (calmBoth (calmBoth (calmBoth (calmBoth (calmBoth (calmBoth (calmBoth (calmBoth (calmBoth calmFact0 calmFact1) calmFact2) calmFact3) calmFact4) calmFact5) calmFact6) calmFact7) calmFact8) calmFact9) calmFact10) calmFact11) calmFact12) calmFact13) calmFact14) calmFact15) calmFact16) calmFact17) calmFact18) calmFact19) calmFact20) calmFact21) calmFact22) calmFact23) calmFact24) calmFact25) calmFact26) calmFact27) calmFact28) calmFact29) calmFact30) calmFact31)
end Go.Proofs.YtbolfohdcjpgoaaGreatDoor
