/- The closed facts of the row FnExactDeskValid, one theorem each. -/
import Derived.Test.YtdfbaedkcfhdfaaJ0
namespace Go.Proofs.Ytdfbaedkcfhdfaa
open Go
theorem jf0 : (Rows.fnExactDeskValidRow.wf (OpenSpec.ofChange Rows.fnExactDeskValidSpec)) = true := by kernel_rfl
theorem jf1 : (laidOutB Try.prog) = true := jz1
theorem jf2 : (mapsRowed Try.prog) = true := jz2
theorem jf3 : (Try.f8.params.all (Try.prog.readableRec ·)) = true := by kernel_rfl
theorem jf4 : (namedTie Try.prog Rows.fnExactDeskValidRow.named Rows.fnExactDeskValidSpec.vars) = true := by kernel_rfl
theorem jf5 : (Rows.fnExactDeskValidRow.stops == []) = true := by kernel_rfl
theorem jf6 : (Try.prog.stops == []) = true := by kernel_rfl
theorem jf7 : (Rows.fnExactDeskValidRow.knobs == []) = true := by kernel_rfl
theorem jf8 : (Try.prog.stopKnobs == []) = true := by kernel_rfl
theorem jf9 : (Rows.fnExactDeskValidRow.inPlace == Try.prog.inPlace 8) = true := by kernel_rfl
theorem jf10 : (Rows.fnExactDeskValidRow.unfollowed == Try.prog.unfollowed 8) = true := by kernel_rfl
theorem jf11 : (Rows.fnExactDeskValidRow.recurses == Try.prog.recurses 8) = true := by kernel_rfl
theorem jf12 : (Rows.fnExactDeskValidRow.named == Try.prog.varsNamed 8) = true := by kernel_rfl
theorem jf13 : (Rows.fnExactDeskValidRow.maps == (Try.f8.params.toList ++ Rows.fnExactDeskValidSpec.plain.varTypes Try.prog).any (Try.prog.mapsRec ·)) = true := by kernel_rfl
theorem jf14 : (Rows.fnExactDeskValidRow.ifaces == (Try.f8.params.toList ++ Rows.fnExactDeskValidSpec.plain.varTypes Try.prog).any (Try.prog.ifacesRec ·)) = true := by kernel_rfl
theorem jf15 : (Rows.fnExactDeskValidRow.mapsOut == Try.prog.mapsAmong Try.f8.resultTypes.toList) = true := by kernel_rfl
theorem jf16 : (Rows.fnExactDeskValidRow.loops == (Try.f8.params.toList ++ Rows.fnExactDeskValidSpec.plain.varTypes Try.prog).any (Try.prog.loopsFrom ·)) = true := by kernel_rfl
theorem jf17 : (Rows.fnExactDeskValidRow.wideKeys == (Try.f8.params.toList ++ Rows.fnExactDeskValidSpec.plain.varTypes Try.prog ++ Try.f8.resultTypes.toList).any (Try.prog.wideKeysFrom ·)) = true := by kernel_rfl
theorem jf18 : (Rows.fnExactDeskValidSpec.vars.all (Try.prog.varReadable ·)) = true := by kernel_rfl
theorem jf19 : (Try.f8.resultTypes.all (fun t => Try.prog.readableRec t && decide (t < Try.prog.types.size))) = true := by kernel_rfl
theorem jf20 : (Rows.fnExactDeskValidRow.ifacesOut == Try.f8.resultTypes.toList.any (Try.prog.ifacesRec ·)) = true := by kernel_rfl
theorem jf21 : (Rows.fnExactDeskValidRow.loopsOut == Try.f8.resultTypes.toList.any (Try.prog.loopsFrom ·)) = true := by kernel_rfl
theorem jf22 : (Rows.fnExactDeskValidRow.plainKeys == Try.prog.plainKeys) = true := by kernel_rfl
theorem jf23 : (Rows.fnExactDeskValidRow.shortTexts.isNone) = true := by kernel_rfl
theorem jf24 : (Try.prog.stopsHeard) = true := jz24
theorem jf25 : (Try.prog.mayEnter) = true := jz25
theorem jf26 : (Rows.fnExactDeskValidRow.lifted == Try.prog.liftsFinal) = true := jz26
theorem jf27 : (Try.prog.make == some Rows.fnExactDeskValidRow.make) = true := jz27
theorem jf29 : (Rows.fnExactDeskValidRow.pinned == Rows.fnExactDeskValidRow.pinnedBy) = true := by kernel_rfl
theorem jf30 : (Rows.fnExactDeskValidRow.veiled == (Try.f8.params.toList ++ Rows.fnExactDeskValidSpec.plain.varTypes Try.prog ++ Try.f8.resultTypes.toList).any (Try.prog.veiledRec ·)) = true := by kernel_rfl
theorem jf31 : (Rows.fnExactDeskValidRow.veiledFits Try.prog Try.f8.params.toList (Try.f8.params.toList ++ Rows.fnExactDeskValidSpec.plain.varTypes Try.prog ++ Try.f8.resultTypes.toList)) = true := by kernel_rfl
theorem joined : joinedFacts Try.prog 8 Try.f8 Rows.fnExactDeskValidSpec Rows.fnExactDeskValidRow = true := joined_of jf0 jf1 jf2 jf3 jf4 jf5 jf6 jf7 jf8 jf9 jf10 jf11 jf12 jf13 jf14 jf15 jf16 jf17 jf18 jf19 jf20 jf21 jf22 jf23 jf24 jf25 jf26 jf27 (by kernel_rfl) jf29 jf30 jf31
end Go.Proofs.Ytdfbaedkcfhdfaa
