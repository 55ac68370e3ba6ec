/- The closed facts of the row FnAllowsMore, one theorem each. -/
import Derived.Test.YtfdjfiabdgmlhaaJ0
namespace Go.Proofs.Ytfdjfiabdgmlhaa
open Go
theorem jf0 : (Rows.fnAllowsMoreRow.wf (OpenSpec.ofChange Rows.fnAllowsMoreSpec)) = true := by kernel_rfl
theorem jf1 : (laidOutB Try.prog) = true := jz1
theorem jf2 : (mapsRowed Try.prog) = true := jz2
theorem jf3 : (Try.f9.params.all (Try.prog.readableRec ·)) = true := by kernel_rfl
theorem jf4 : (namedTie Try.prog Rows.fnAllowsMoreRow.named Rows.fnAllowsMoreSpec.vars) = true := by kernel_rfl
theorem jf5 : (Rows.fnAllowsMoreRow.stops == []) = true := by kernel_rfl
theorem jf6 : (Try.prog.stops == []) = true := by kernel_rfl
theorem jf7 : (Rows.fnAllowsMoreRow.knobs == []) = true := by kernel_rfl
theorem jf8 : (Try.prog.stopKnobs == []) = true := by kernel_rfl
theorem jf9 : (Rows.fnAllowsMoreRow.inPlace == Try.prog.inPlace 9) = true := by kernel_rfl
theorem jf10 : (Rows.fnAllowsMoreRow.unfollowed == Try.prog.unfollowed 9) = true := by kernel_rfl
theorem jf11 : (Rows.fnAllowsMoreRow.recurses == Try.prog.recurses 9) = true := by kernel_rfl
theorem jf12 : (Rows.fnAllowsMoreRow.named == Try.prog.varsNamed 9) = true := by kernel_rfl
theorem jf13 : (Rows.fnAllowsMoreRow.maps == (Try.f9.params.toList ++ Rows.fnAllowsMoreSpec.plain.varTypes Try.prog).any (Try.prog.mapsRec ·)) = true := by kernel_rfl
theorem jf14 : (Rows.fnAllowsMoreRow.ifaces == (Try.f9.params.toList ++ Rows.fnAllowsMoreSpec.plain.varTypes Try.prog).any (Try.prog.ifacesRec ·)) = true := by kernel_rfl
theorem jf15 : (Rows.fnAllowsMoreRow.mapsOut == Try.prog.mapsAmong Try.f9.resultTypes.toList) = true := by kernel_rfl
theorem jf16 : (Rows.fnAllowsMoreRow.loops == (Try.f9.params.toList ++ Rows.fnAllowsMoreSpec.plain.varTypes Try.prog).any (Try.prog.loopsFrom ·)) = true := by kernel_rfl
theorem jf17 : (Rows.fnAllowsMoreRow.wideKeys == (Try.f9.params.toList ++ Rows.fnAllowsMoreSpec.plain.varTypes Try.prog ++ Try.f9.resultTypes.toList).any (Try.prog.wideKeysFrom ·)) = true := by kernel_rfl
theorem jf18 : (Rows.fnAllowsMoreSpec.vars.all (Try.prog.varReadable ·)) = true := by kernel_rfl
theorem jf19 : (Try.f9.resultTypes.all (fun t => Try.prog.readableRec t && decide (t < Try.prog.types.size))) = true := by kernel_rfl
theorem jf20 : (Rows.fnAllowsMoreRow.ifacesOut == Try.f9.resultTypes.toList.any (Try.prog.ifacesRec ·)) = true := by kernel_rfl
theorem jf21 : (Rows.fnAllowsMoreRow.loopsOut == Try.f9.resultTypes.toList.any (Try.prog.loopsFrom ·)) = true := by kernel_rfl
theorem jf22 : (Rows.fnAllowsMoreRow.plainKeys == Try.prog.plainKeys) = true := by kernel_rfl
theorem jf23 : (Rows.fnAllowsMoreRow.shortTexts.isNone) = true := by kernel_rfl
theorem jf24 : (Try.prog.stopsHeard) = true := jz24
theorem jf25 : (Try.prog.mayEnter) = true := jz25
theorem jf26 : (Rows.fnAllowsMoreRow.lifted == Try.prog.liftsFinal) = true := jz26
theorem jf27 : (Try.prog.make == some Rows.fnAllowsMoreRow.make) = true := jz27
theorem jf29 : (Rows.fnAllowsMoreRow.pinned == Rows.fnAllowsMoreRow.pinnedBy) = true := by kernel_rfl
theorem jf30 : (Rows.fnAllowsMoreRow.veiled == (Try.f9.params.toList ++ Rows.fnAllowsMoreSpec.plain.varTypes Try.prog ++ Try.f9.resultTypes.toList).any (Try.prog.veiledRec ·)) = true := by kernel_rfl
theorem jf31 : (Rows.fnAllowsMoreRow.veiledFits Try.prog Try.f9.params.toList (Try.f9.params.toList ++ Rows.fnAllowsMoreSpec.plain.varTypes Try.prog ++ Try.f9.resultTypes.toList)) = true := by kernel_rfl
theorem joined : joinedFacts Try.prog 9 Try.f9 Rows.fnAllowsMoreSpec Rows.fnAllowsMoreRow = true := joined_of jf0 jf1 jf2 jf3 jf4 jf5 jf6 jf7 jf8 jf9 jf10 jf11 jf12 jf13 jf14 jf15 jf16 jf17 jf18 jf19 jf20 jf21 jf22 jf23 jf24 jf25 jf26 jf27 (by kernel_rfl) jf29 jf30 jf31
end Go.Proofs.Ytfdjfiabdgmlhaa
