/- The closed facts of the row FnPartialDecision, one theorem each. -/
import Derived.Test.YtfdjfiabdgmlhaaJ0
namespace Go.Proofs.Ytfdjfiabdgmlhaa
open Go
theorem jf0 : (Rows.fnPartialDecisionRow.wf (OpenSpec.ofChange Rows.fnPartialDecisionSpec)) = true := by kernel_rfl
theorem jf1 : (laidOutB Try.prog) = true := jz1
theorem jf2 : (mapsRowed Try.prog) = true := jz2
theorem jf3 : (Try.f13.params.all (Try.prog.readableRec ·)) = true := by kernel_rfl
theorem jf4 : (namedTie Try.prog Rows.fnPartialDecisionRow.named Rows.fnPartialDecisionSpec.vars) = true := by kernel_rfl
theorem jf5 : (Rows.fnPartialDecisionRow.stops == []) = true := by kernel_rfl
theorem jf6 : (Try.prog.stops == []) = true := by kernel_rfl
theorem jf7 : (Rows.fnPartialDecisionRow.knobs == []) = true := by kernel_rfl
theorem jf8 : (Try.prog.stopKnobs == []) = true := by kernel_rfl
theorem jf9 : (Rows.fnPartialDecisionRow.inPlace == Try.prog.inPlace 13) = true := by kernel_rfl
theorem jf10 : (Rows.fnPartialDecisionRow.unfollowed == Try.prog.unfollowed 13) = true := by kernel_rfl
theorem jf11 : (Rows.fnPartialDecisionRow.recurses == Try.prog.recurses 13) = true := by kernel_rfl
theorem jf12 : (Rows.fnPartialDecisionRow.named == Try.prog.varsNamed 13) = true := by kernel_rfl
theorem jf13 : (Rows.fnPartialDecisionRow.maps == (Try.f13.params.toList ++ Rows.fnPartialDecisionSpec.plain.varTypes Try.prog).any (Try.prog.mapsRec ·)) = true := by kernel_rfl
theorem jf14 : (Rows.fnPartialDecisionRow.ifaces == (Try.f13.params.toList ++ Rows.fnPartialDecisionSpec.plain.varTypes Try.prog).any (Try.prog.ifacesRec ·)) = true := by kernel_rfl
theorem jf15 : (Rows.fnPartialDecisionRow.mapsOut == Try.prog.mapsAmong Try.f13.resultTypes.toList) = true := by kernel_rfl
theorem jf16 : (Rows.fnPartialDecisionRow.loops == (Try.f13.params.toList ++ Rows.fnPartialDecisionSpec.plain.varTypes Try.prog).any (Try.prog.loopsFrom ·)) = true := by kernel_rfl
theorem jf17 : (Rows.fnPartialDecisionRow.wideKeys == (Try.f13.params.toList ++ Rows.fnPartialDecisionSpec.plain.varTypes Try.prog ++ Try.f13.resultTypes.toList).any (Try.prog.wideKeysFrom ·)) = true := by kernel_rfl
theorem jf18 : (Rows.fnPartialDecisionSpec.vars.all (Try.prog.varReadable ·)) = true := by kernel_rfl
theorem jf19 : (Try.f13.resultTypes.all (fun t => Try.prog.readableRec t && decide (t < Try.prog.types.size))) = true := by kernel_rfl
theorem jf20 : (Rows.fnPartialDecisionRow.ifacesOut == Try.f13.resultTypes.toList.any (Try.prog.ifacesRec ·)) = true := by kernel_rfl
theorem jf21 : (Rows.fnPartialDecisionRow.loopsOut == Try.f13.resultTypes.toList.any (Try.prog.loopsFrom ·)) = true := by kernel_rfl
theorem jf22 : (Rows.fnPartialDecisionRow.plainKeys == Try.prog.plainKeys) = true := by kernel_rfl
theorem jf23 : (Rows.fnPartialDecisionRow.shortTexts.isNone) = true := by kernel_rfl
theorem jf24 : (Try.prog.stopsHeard) = true := jz24
theorem jf25 : (Try.prog.mayEnter) = true := jz25
theorem jf26 : (Rows.fnPartialDecisionRow.lifted == Try.prog.liftsFinal) = true := jz26
theorem jf27 : (Try.prog.make == some Rows.fnPartialDecisionRow.make) = true := jz27
theorem jf29 : (Rows.fnPartialDecisionRow.pinned == Rows.fnPartialDecisionRow.pinnedBy) = true := by kernel_rfl
theorem jf30 : (Rows.fnPartialDecisionRow.veiled == (Try.f13.params.toList ++ Rows.fnPartialDecisionSpec.plain.varTypes Try.prog ++ Try.f13.resultTypes.toList).any (Try.prog.veiledRec ·)) = true := by kernel_rfl
theorem jf31 : (Rows.fnPartialDecisionRow.veiledFits Try.prog Try.f13.params.toList (Try.f13.params.toList ++ Rows.fnPartialDecisionSpec.plain.varTypes Try.prog ++ Try.f13.resultTypes.toList)) = true := by kernel_rfl
theorem joined : joinedFacts Try.prog 13 Try.f13 Rows.fnPartialDecisionSpec Rows.fnPartialDecisionRow = true := joined_of jf0 jf1 jf2 jf3 jf4 jf5 jf6 jf7 jf8 jf9 jf10 jf11 jf12 jf13 jf14 jf15 jf16 jf17 jf18 jf19 jf20 jf21 jf22 jf23 jf24 jf25 jf26 jf27 (by kernel_rfl) jf29 jf30 jf31
end Go.Proofs.Ytfdjfiabdgmlhaa
