/- The closed facts of the row FnForbidMore, one theorem each. -/
import Derived.Test.YtfdjfiabdgmlhaaJ0
namespace Go.Proofs.Ytfdjfiabdgmlhaa
open Go
theorem jf0 : (Rows.fnForbidMoreRow.wf (OpenSpec.ofChange Rows.fnForbidMoreSpec)) = true := by kernel_rfl
theorem jf1 : (laidOutB Try.prog) = true := jz1
theorem jf2 : (mapsRowed Try.prog) = true := jz2
theorem jf3 : (Try.f11.params.all (Try.prog.readableRec ·)) = true := by kernel_rfl
theorem jf4 : (namedTie Try.prog Rows.fnForbidMoreRow.named Rows.fnForbidMoreSpec.vars) = true := by kernel_rfl
theorem jf5 : (Rows.fnForbidMoreRow.stops == []) = true := by kernel_rfl
theorem jf6 : (Try.prog.stops == []) = true := by kernel_rfl
theorem jf7 : (Rows.fnForbidMoreRow.knobs == []) = true := by kernel_rfl
theorem jf8 : (Try.prog.stopKnobs == []) = true := by kernel_rfl
theorem jf9 : (Rows.fnForbidMoreRow.inPlace == Try.prog.inPlace 11) = true := by kernel_rfl
theorem jf10 : (Rows.fnForbidMoreRow.unfollowed == Try.prog.unfollowed 11) = true := by kernel_rfl
theorem jf11 : (Rows.fnForbidMoreRow.recurses == Try.prog.recurses 11) = true := by kernel_rfl
theorem jf12 : (Rows.fnForbidMoreRow.named == Try.prog.varsNamed 11) = true := by kernel_rfl
theorem jf13 : (Rows.fnForbidMoreRow.maps == (Try.f11.params.toList ++ Rows.fnForbidMoreSpec.plain.varTypes Try.prog).any (Try.prog.mapsRec ·)) = true := by kernel_rfl
theorem jf14 : (Rows.fnForbidMoreRow.ifaces == (Try.f11.params.toList ++ Rows.fnForbidMoreSpec.plain.varTypes Try.prog).any (Try.prog.ifacesRec ·)) = true := by kernel_rfl
theorem jf15 : (Rows.fnForbidMoreRow.mapsOut == Try.prog.mapsAmong Try.f11.resultTypes.toList) = true := by kernel_rfl
theorem jf16 : (Rows.fnForbidMoreRow.loops == (Try.f11.params.toList ++ Rows.fnForbidMoreSpec.plain.varTypes Try.prog).any (Try.prog.loopsFrom ·)) = true := by kernel_rfl
theorem jf17 : (Rows.fnForbidMoreRow.wideKeys == (Try.f11.params.toList ++ Rows.fnForbidMoreSpec.plain.varTypes Try.prog ++ Try.f11.resultTypes.toList).any (Try.prog.wideKeysFrom ·)) = true := by kernel_rfl
theorem jf18 : (Rows.fnForbidMoreSpec.vars.all (Try.prog.varReadable ·)) = true := by kernel_rfl
theorem jf19 : (Try.f11.resultTypes.all (fun t => Try.prog.readableRec t && decide (t < Try.prog.types.size))) = true := by kernel_rfl
theorem jf20 : (Rows.fnForbidMoreRow.ifacesOut == Try.f11.resultTypes.toList.any (Try.prog.ifacesRec ·)) = true := by kernel_rfl
theorem jf21 : (Rows.fnForbidMoreRow.loopsOut == Try.f11.resultTypes.toList.any (Try.prog.loopsFrom ·)) = true := by kernel_rfl
theorem jf22 : (Rows.fnForbidMoreRow.plainKeys == Try.prog.plainKeys) = true := by kernel_rfl
theorem jf23 : (Rows.fnForbidMoreRow.shortTexts.isNone) = true := by kernel_rfl
theorem jf24 : (Try.prog.stopsHeard) = true := jz24
theorem jf25 : (Try.prog.mayEnter) = true := jz25
theorem jf26 : (Rows.fnForbidMoreRow.lifted == Try.prog.liftsFinal) = true := jz26
theorem jf27 : (Try.prog.make == some Rows.fnForbidMoreRow.make) = true := jz27
theorem jf29 : (Rows.fnForbidMoreRow.pinned == Rows.fnForbidMoreRow.pinnedBy) = true := by kernel_rfl
theorem jf30 : (Rows.fnForbidMoreRow.veiled == (Try.f11.params.toList ++ Rows.fnForbidMoreSpec.plain.varTypes Try.prog ++ Try.f11.resultTypes.toList).any (Try.prog.veiledRec ·)) = true := by kernel_rfl
theorem jf31 : (Rows.fnForbidMoreRow.veiledFits Try.prog Try.f11.params.toList (Try.f11.params.toList ++ Rows.fnForbidMoreSpec.plain.varTypes Try.prog ++ Try.f11.resultTypes.toList)) = true := by kernel_rfl
theorem joined : joinedFacts Try.prog 11 Try.f11 Rows.fnForbidMoreSpec Rows.fnForbidMoreRow = true := joined_of jf0 jf1 jf2 jf3 jf4 jf5 jf6 jf7 jf8 jf9 jf10 jf11 jf12 jf13 jf14 jf15 jf16 jf17 jf18 jf19 jf20 jf21 jf22 jf23 jf24 jf25 jf26 jf27 (by kernel_rfl) jf29 jf30 jf31
end Go.Proofs.Ytfdjfiabdgmlhaa
