/- The closed facts of the row FnDecisionText, one theorem each. -/
import Derived.Test.YtnbhcnjmjlplhaaDoorJ0
namespace Go.Proofs.YtnbhcnjmjlplhaaDoor
open Go
theorem jf0 : (Rows.fnDecisionTextRow.wf (OpenSpec.ofChange Rows.fnDecisionTextSpec)) = true := by kernel_rfl
theorem jf1 : (laidOutB Tryd.prog) = true := jz1
theorem jf2 : (mapsRowed Tryd.prog) = true := jz2
theorem jf3 : (Tryd.f3.params.all (Tryd.prog.readableRec ·)) = true := by kernel_rfl
theorem jf4 : (namedTie Tryd.prog Rows.fnDecisionTextRow.named Rows.fnDecisionTextSpec.vars) = true := by kernel_rfl
theorem jf5 : (Rows.fnDecisionTextRow.stops == []) = true := by kernel_rfl
theorem jf6 : (Tryd.prog.stops == []) = true := by kernel_rfl
theorem jf7 : (Rows.fnDecisionTextRow.knobs == []) = true := by kernel_rfl
theorem jf8 : (Tryd.prog.stopKnobs == []) = true := by kernel_rfl
theorem jf9 : (Rows.fnDecisionTextRow.inPlace == Tryd.prog.inPlace 3) = true := by kernel_rfl
theorem jf10 : (Rows.fnDecisionTextRow.unfollowed == Tryd.prog.unfollowed 3) = true := by kernel_rfl
theorem jf11 : (Rows.fnDecisionTextRow.recurses == Tryd.prog.recurses 3) = true := by kernel_rfl
theorem jf12 : (Rows.fnDecisionTextRow.named == Tryd.prog.varsNamed 3) = true := by kernel_rfl
theorem jf13 : (Rows.fnDecisionTextRow.maps == (Tryd.f3.params.toList ++ Rows.fnDecisionTextSpec.plain.varTypes Tryd.prog).any (Tryd.prog.mapsRec ·)) = true := by kernel_rfl
theorem jf14 : (Rows.fnDecisionTextRow.ifaces == (Tryd.f3.params.toList ++ Rows.fnDecisionTextSpec.plain.varTypes Tryd.prog).any (Tryd.prog.ifacesRec ·)) = true := by kernel_rfl
theorem jf15 : (Rows.fnDecisionTextRow.mapsOut == Tryd.prog.mapsAmong Tryd.f3.resultTypes.toList) = true := by kernel_rfl
theorem jf16 : (Rows.fnDecisionTextRow.loops == (Tryd.f3.params.toList ++ Rows.fnDecisionTextSpec.plain.varTypes Tryd.prog).any (Tryd.prog.loopsFrom ·)) = true := by kernel_rfl
theorem jf17 : (Rows.fnDecisionTextRow.wideKeys == (Tryd.f3.params.toList ++ Rows.fnDecisionTextSpec.plain.varTypes Tryd.prog ++ Tryd.f3.resultTypes.toList).any (Tryd.prog.wideKeysFrom ·)) = true := by kernel_rfl
theorem jf18 : (Rows.fnDecisionTextSpec.vars.all (Tryd.prog.varReadable ·)) = true := by kernel_rfl
theorem jf19 : (Tryd.f3.resultTypes.all (fun t => Tryd.prog.readableRec t && decide (t < Tryd.prog.types.size))) = true := by kernel_rfl
theorem jf20 : (Rows.fnDecisionTextRow.ifacesOut == Tryd.f3.resultTypes.toList.any (Tryd.prog.ifacesRec ·)) = true := by kernel_rfl
theorem jf21 : (Rows.fnDecisionTextRow.loopsOut == Tryd.f3.resultTypes.toList.any (Tryd.prog.loopsFrom ·)) = true := by kernel_rfl
theorem jf22 : (Rows.fnDecisionTextRow.plainKeys == Tryd.prog.plainKeys) = true := by kernel_rfl
theorem jf23 : (Rows.fnDecisionTextRow.shortTexts.isNone) = true := by kernel_rfl
theorem jf24 : (Tryd.prog.stopsHeard) = true := jz24
theorem jf25 : (Tryd.prog.mayEnter) = true := jz25
theorem jf26 : (Rows.fnDecisionTextRow.lifted == Tryd.prog.liftsFinal) = true := jz26
theorem jf27 : (Tryd.prog.make == some Rows.fnDecisionTextRow.make) = true := jz27
theorem jf29 : (Rows.fnDecisionTextRow.pinned == Rows.fnDecisionTextRow.pinnedBy) = true := by kernel_rfl
theorem jf30 : (Rows.fnDecisionTextRow.veiled == (Tryd.f3.params.toList ++ Rows.fnDecisionTextSpec.plain.varTypes Tryd.prog ++ Tryd.f3.resultTypes.toList).any (Tryd.prog.veiledRec ·)) = true := by kernel_rfl
theorem jf31 : (Rows.fnDecisionTextRow.veiledFits Tryd.prog Tryd.f3.params.toList (Tryd.f3.params.toList ++ Rows.fnDecisionTextSpec.plain.varTypes Tryd.prog ++ Tryd.f3.resultTypes.toList)) = true := by kernel_rfl
theorem joined : joinedFacts Tryd.prog 3 Tryd.f3 Rows.fnDecisionTextSpec Rows.fnDecisionTextRow = true := joined_of jf0 jf1 jf2 jf3 jf4 jf5 jf6 jf7 jf8 jf9 jf10 jf11 jf12 jf13 jf14 jf15 jf16 jf17 jf18 jf19 jf20 jf21 jf22 jf23 jf24 jf25 jf26 jf27 (by kernel_rfl) jf29 jf30 jf31
end Go.Proofs.YtnbhcnjmjlplhaaDoor
