/- The closed facts of the row FnAccessTable, one theorem each. -/
import Derived.Test.YtfdjfiabdgmlhaaJ0
namespace Go.Proofs.Ytfdjfiabdgmlhaa
open Go
theorem jf0 : (Rows.fnAccessTableRow.wf (OpenSpec.ofChange Rows.fnAccessTableSpec)) = true := by kernel_rfl
theorem jf1 : (laidOutB Try.prog) = true := jz1
theorem jf2 : (mapsRowed Try.prog) = true := jz2
theorem jf3 : (Try.f10.params.all (Try.prog.readableRec ·)) = true := by kernel_rfl
theorem jf4 : (namedTie Try.prog Rows.fnAccessTableRow.named Rows.fnAccessTableSpec.vars) = true := by kernel_rfl
theorem jf5 : (Rows.fnAccessTableRow.stops == []) = true := by kernel_rfl
theorem jf6 : (Try.prog.stops == []) = true := by kernel_rfl
theorem jf7 : (Rows.fnAccessTableRow.knobs == []) = true := by kernel_rfl
theorem jf8 : (Try.prog.stopKnobs == []) = true := by kernel_rfl
theorem jf9 : (Rows.fnAccessTableRow.inPlace == Try.prog.inPlace 10) = true := by kernel_rfl
theorem jf10 : (Rows.fnAccessTableRow.unfollowed == Try.prog.unfollowed 10) = true := by kernel_rfl
theorem jf11 : (Rows.fnAccessTableRow.recurses == Try.prog.recurses 10) = true := by kernel_rfl
theorem jf12 : (Rows.fnAccessTableRow.named == Try.prog.varsNamed 10) = true := by kernel_rfl
theorem jf13 : (Rows.fnAccessTableRow.maps == (Try.f10.params.toList ++ Rows.fnAccessTableSpec.plain.varTypes Try.prog).any (Try.prog.mapsRec ·)) = true := by kernel_rfl
theorem jf14 : (Rows.fnAccessTableRow.ifaces == (Try.f10.params.toList ++ Rows.fnAccessTableSpec.plain.varTypes Try.prog).any (Try.prog.ifacesRec ·)) = true := by kernel_rfl
theorem jf15 : (Rows.fnAccessTableRow.mapsOut == Try.prog.mapsAmong Try.f10.resultTypes.toList) = true := by kernel_rfl
theorem jf16 : (Rows.fnAccessTableRow.loops == (Try.f10.params.toList ++ Rows.fnAccessTableSpec.plain.varTypes Try.prog).any (Try.prog.loopsFrom ·)) = true := by kernel_rfl
theorem jf17 : (Rows.fnAccessTableRow.wideKeys == (Try.f10.params.toList ++ Rows.fnAccessTableSpec.plain.varTypes Try.prog ++ Try.f10.resultTypes.toList).any (Try.prog.wideKeysFrom ·)) = true := by kernel_rfl
theorem jf18 : (Rows.fnAccessTableSpec.vars.all (Try.prog.varReadable ·)) = true := by kernel_rfl
theorem jf19 : (Try.f10.resultTypes.all (fun t => Try.prog.readableRec t && decide (t < Try.prog.types.size))) = true := by kernel_rfl
theorem jf20 : (Rows.fnAccessTableRow.ifacesOut == Try.f10.resultTypes.toList.any (Try.prog.ifacesRec ·)) = true := by kernel_rfl
theorem jf21 : (Rows.fnAccessTableRow.loopsOut == Try.f10.resultTypes.toList.any (Try.prog.loopsFrom ·)) = true := by kernel_rfl
theorem jf22 : (Rows.fnAccessTableRow.plainKeys == Try.prog.plainKeys) = true := by kernel_rfl
theorem jf23 : (Rows.fnAccessTableRow.shortTexts.isNone) = true := by kernel_rfl
theorem jf24 : (Try.prog.stopsHeard) = true := jz24
theorem jf25 : (Try.prog.mayEnter) = true := jz25
theorem jf26 : (Rows.fnAccessTableRow.lifted == Try.prog.liftsFinal) = true := jz26
theorem jf27 : (Try.prog.make == some Rows.fnAccessTableRow.make) = true := jz27
theorem jf29 : (Rows.fnAccessTableRow.pinned == Rows.fnAccessTableRow.pinnedBy) = true := by kernel_rfl
theorem jf30 : (Rows.fnAccessTableRow.veiled == (Try.f10.params.toList ++ Rows.fnAccessTableSpec.plain.varTypes Try.prog ++ Try.f10.resultTypes.toList).any (Try.prog.veiledRec ·)) = true := by kernel_rfl
theorem jf31 : (Rows.fnAccessTableRow.veiledFits Try.prog Try.f10.params.toList (Try.f10.params.toList ++ Rows.fnAccessTableSpec.plain.varTypes Try.prog ++ Try.f10.resultTypes.toList)) = true := by kernel_rfl
theorem joined : joinedFacts Try.prog 10 Try.f10 Rows.fnAccessTableSpec Rows.fnAccessTableRow = true := joined_of jf0 jf1 jf2 jf3 jf4 jf5 jf6 jf7 jf8 jf9 jf10 jf11 jf12 jf13 jf14 jf15 jf16 jf17 jf18 jf19 jf20 jf21 jf22 jf23 jf24 jf25 jf26 jf27 (by kernel_rfl) jf29 jf30 jf31
end Go.Proofs.Ytfdjfiabdgmlhaa
