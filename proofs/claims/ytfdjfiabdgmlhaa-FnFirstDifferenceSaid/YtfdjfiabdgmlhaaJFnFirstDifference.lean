/- The closed facts of the row FnFirstDifference, one theorem each. -/
import Derived.Test.YtfdjfiabdgmlhaaJ0
namespace Go.Proofs.Ytfdjfiabdgmlhaa
open Go
theorem jf0 : (Rows.fnFirstDifferenceRow.wf (OpenSpec.ofChange Rows.fnFirstDifferenceSpec)) = true := by kernel_rfl
theorem jf1 : (laidOutB Try.prog) = true := jz1
theorem jf2 : (mapsRowed Try.prog) = true := jz2
theorem jf3 : (Try.f8.params.all (Try.prog.readableRec ·)) = true := by kernel_rfl
theorem jf4 : (namedTie Try.prog Rows.fnFirstDifferenceRow.named Rows.fnFirstDifferenceSpec.vars) = true := by kernel_rfl
theorem jf5 : (Rows.fnFirstDifferenceRow.stops == []) = true := by kernel_rfl
theorem jf6 : (Try.prog.stops == []) = true := by kernel_rfl
theorem jf7 : (Rows.fnFirstDifferenceRow.knobs == []) = true := by kernel_rfl
theorem jf8 : (Try.prog.stopKnobs == []) = true := by kernel_rfl
theorem jf9 : (Rows.fnFirstDifferenceRow.inPlace == Try.prog.inPlace 8) = true := by kernel_rfl
theorem jf10 : (Rows.fnFirstDifferenceRow.unfollowed == Try.prog.unfollowed 8) = true := by kernel_rfl
theorem jf11 : (Rows.fnFirstDifferenceRow.recurses == Try.prog.recurses 8) = true := by kernel_rfl
theorem jf12 : (Rows.fnFirstDifferenceRow.named == Try.prog.varsNamed 8) = true := by kernel_rfl
theorem jf13 : (Rows.fnFirstDifferenceRow.maps == (Try.f8.params.toList ++ Rows.fnFirstDifferenceSpec.plain.varTypes Try.prog).any (Try.prog.mapsRec ·)) = true := by kernel_rfl
theorem jf14 : (Rows.fnFirstDifferenceRow.ifaces == (Try.f8.params.toList ++ Rows.fnFirstDifferenceSpec.plain.varTypes Try.prog).any (Try.prog.ifacesRec ·)) = true := by kernel_rfl
theorem jf15 : (Rows.fnFirstDifferenceRow.mapsOut == Try.prog.mapsAmong Try.f8.resultTypes.toList) = true := by kernel_rfl
theorem jf16 : (Rows.fnFirstDifferenceRow.loops == (Try.f8.params.toList ++ Rows.fnFirstDifferenceSpec.plain.varTypes Try.prog).any (Try.prog.loopsFrom ·)) = true := by kernel_rfl
theorem jf17 : (Rows.fnFirstDifferenceRow.wideKeys == (Try.f8.params.toList ++ Rows.fnFirstDifferenceSpec.plain.varTypes Try.prog ++ Try.f8.resultTypes.toList).any (Try.prog.wideKeysFrom ·)) = true := by kernel_rfl
theorem jf18 : (Rows.fnFirstDifferenceSpec.vars.all (Try.prog.varReadable ·)) = true := by kernel_rfl
theorem jf19 : (Try.f8.resultTypes.all (fun t => Try.prog.readableRec t && decide (t < Try.prog.types.size))) = true := by kernel_rfl
theorem jf20 : (Rows.fnFirstDifferenceRow.ifacesOut == Try.f8.resultTypes.toList.any (Try.prog.ifacesRec ·)) = true := by kernel_rfl
theorem jf21 : (Rows.fnFirstDifferenceRow.loopsOut == Try.f8.resultTypes.toList.any (Try.prog.loopsFrom ·)) = true := by kernel_rfl
theorem jf22 : (Rows.fnFirstDifferenceRow.plainKeys == Try.prog.plainKeys) = true := by kernel_rfl
theorem jf23 : (Rows.fnFirstDifferenceRow.shortTexts.isNone) = true := by kernel_rfl
theorem jf24 : (Try.prog.stopsHeard) = true := jz24
theorem jf25 : (Try.prog.mayEnter) = true := jz25
theorem jf26 : (Rows.fnFirstDifferenceRow.lifted == Try.prog.liftsFinal) = true := jz26
theorem jf27 : (Try.prog.make == some Rows.fnFirstDifferenceRow.make) = true := jz27
theorem jf29 : (Rows.fnFirstDifferenceRow.pinned == Rows.fnFirstDifferenceRow.pinnedBy) = true := by kernel_rfl
theorem jf30 : (Rows.fnFirstDifferenceRow.veiled == (Try.f8.params.toList ++ Rows.fnFirstDifferenceSpec.plain.varTypes Try.prog ++ Try.f8.resultTypes.toList).any (Try.prog.veiledRec ·)) = true := by kernel_rfl
theorem jf31 : (Rows.fnFirstDifferenceRow.veiledFits Try.prog Try.f8.params.toList (Try.f8.params.toList ++ Rows.fnFirstDifferenceSpec.plain.varTypes Try.prog ++ Try.f8.resultTypes.toList)) = true := by kernel_rfl
theorem joined : joinedFacts Try.prog 8 Try.f8 Rows.fnFirstDifferenceSpec Rows.fnFirstDifferenceRow = true := joined_of jf0 jf1 jf2 jf3 jf4 jf5 jf6 jf7 jf8 jf9 jf10 jf11 jf12 jf13 jf14 jf15 jf16 jf17 jf18 jf19 jf20 jf21 jf22 jf23 jf24 jf25 jf26 jf27 (by kernel_rfl) jf29 jf30 jf31
end Go.Proofs.Ytfdjfiabdgmlhaa
