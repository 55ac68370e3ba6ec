/- The closed facts of the row FnExactDecisionText, one theorem each. -/
import Derived.Test.YtnbhcnjmjlplhaaDoorJ0
namespace Go.Proofs.YtnbhcnjmjlplhaaDoor
open Go
theorem jf0 : (Rows.fnExactDecisionTextRow.wf (OpenSpec.ofChange Rows.fnExactDecisionTextSpec)) = true := by kernel_rfl
theorem jf1 : (laidOutB Tryd.prog) = true := jz1
theorem jf2 : (mapsRowed Tryd.prog) = true := jz2
theorem jf3 : (Tryd.f4.params.all (Tryd.prog.readableRec ·)) = true := by kernel_rfl
theorem jf4 : (namedTie Tryd.prog Rows.fnExactDecisionTextRow.named Rows.fnExactDecisionTextSpec.vars) = true := by kernel_rfl
theorem jf5 : (Rows.fnExactDecisionTextRow.stops == []) = true := by kernel_rfl
theorem jf6 : (Tryd.prog.stops == []) = true := by kernel_rfl
theorem jf7 : (Rows.fnExactDecisionTextRow.knobs == []) = true := by kernel_rfl
theorem jf8 : (Tryd.prog.stopKnobs == []) = true := by kernel_rfl
theorem jf9 : (Rows.fnExactDecisionTextRow.inPlace == Tryd.prog.inPlace 4) = true := by kernel_rfl
theorem jf10 : (Rows.fnExactDecisionTextRow.unfollowed == Tryd.prog.unfollowed 4) = true := by kernel_rfl
theorem jf11 : (Rows.fnExactDecisionTextRow.recurses == Tryd.prog.recurses 4) = true := by kernel_rfl
theorem jf12 : (Rows.fnExactDecisionTextRow.named == Tryd.prog.varsNamed 4) = true := by kernel_rfl
theorem jf13 : (Rows.fnExactDecisionTextRow.maps == (Tryd.f4.params.toList ++ Rows.fnExactDecisionTextSpec.plain.varTypes Tryd.prog).any (Tryd.prog.mapsRec ·)) = true := by kernel_rfl
theorem jf14 : (Rows.fnExactDecisionTextRow.ifaces == (Tryd.f4.params.toList ++ Rows.fnExactDecisionTextSpec.plain.varTypes Tryd.prog).any (Tryd.prog.ifacesRec ·)) = true := by kernel_rfl
theorem jf15 : (Rows.fnExactDecisionTextRow.mapsOut == Tryd.prog.mapsAmong Tryd.f4.resultTypes.toList) = true := by kernel_rfl
theorem jf16 : (Rows.fnExactDecisionTextRow.loops == (Tryd.f4.params.toList ++ Rows.fnExactDecisionTextSpec.plain.varTypes Tryd.prog).any (Tryd.prog.loopsFrom ·)) = true := by kernel_rfl
theorem jf17 : (Rows.fnExactDecisionTextRow.wideKeys == (Tryd.f4.params.toList ++ Rows.fnExactDecisionTextSpec.plain.varTypes Tryd.prog ++ Tryd.f4.resultTypes.toList).any (Tryd.prog.wideKeysFrom ·)) = true := by kernel_rfl
theorem jf18 : (Rows.fnExactDecisionTextSpec.vars.all (Tryd.prog.varReadable ·)) = true := by kernel_rfl
theorem jf19 : (Tryd.f4.resultTypes.all (fun t => Tryd.prog.readableRec t && decide (t < Tryd.prog.types.size))) = true := by kernel_rfl
theorem jf20 : (Rows.fnExactDecisionTextRow.ifacesOut == Tryd.f4.resultTypes.toList.any (Tryd.prog.ifacesRec ·)) = true := by kernel_rfl
theorem jf21 : (Rows.fnExactDecisionTextRow.loopsOut == Tryd.f4.resultTypes.toList.any (Tryd.prog.loopsFrom ·)) = true := by kernel_rfl
theorem jf22 : (Rows.fnExactDecisionTextRow.plainKeys == Tryd.prog.plainKeys) = true := by kernel_rfl
theorem jf23 : (Rows.fnExactDecisionTextRow.shortTexts.isNone) = true := by kernel_rfl
theorem jf24 : (Tryd.prog.stopsHeard) = true := jz24
theorem jf25 : (Tryd.prog.mayEnter) = true := jz25
theorem jf26 : (Rows.fnExactDecisionTextRow.lifted == Tryd.prog.liftsFinal) = true := jz26
theorem jf27 : (Tryd.prog.make == some Rows.fnExactDecisionTextRow.make) = true := jz27
theorem jf29 : (Rows.fnExactDecisionTextRow.pinned == Rows.fnExactDecisionTextRow.pinnedBy) = true := by kernel_rfl
theorem jf30 : (Rows.fnExactDecisionTextRow.veiled == (Tryd.f4.params.toList ++ Rows.fnExactDecisionTextSpec.plain.varTypes Tryd.prog ++ Tryd.f4.resultTypes.toList).any (Tryd.prog.veiledRec ·)) = true := by kernel_rfl
theorem jf31 : (Rows.fnExactDecisionTextRow.veiledFits Tryd.prog Tryd.f4.params.toList (Tryd.f4.params.toList ++ Rows.fnExactDecisionTextSpec.plain.varTypes Tryd.prog ++ Tryd.f4.resultTypes.toList)) = true := by kernel_rfl
theorem joined : joinedFacts Tryd.prog 4 Tryd.f4 Rows.fnExactDecisionTextSpec Rows.fnExactDecisionTextRow = true := joined_of jf0 jf1 jf2 jf3 jf4 jf5 jf6 jf7 jf8 jf9 jf10 jf11 jf12 jf13 jf14 jf15 jf16 jf17 jf18 jf19 jf20 jf21 jf22 jf23 jf24 jf25 jf26 jf27 (by kernel_rfl) jf29 jf30 jf31
end Go.Proofs.YtnbhcnjmjlplhaaDoor
