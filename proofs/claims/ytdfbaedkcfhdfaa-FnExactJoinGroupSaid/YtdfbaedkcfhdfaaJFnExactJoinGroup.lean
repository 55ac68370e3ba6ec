/- The closed facts of the row FnExactJoinGroup, one theorem each. -/
import Derived.Test.YtdfbaedkcfhdfaaJ0
namespace Go.Proofs.Ytdfbaedkcfhdfaa
open Go
theorem jf0 : (Rows.fnExactJoinGroupRow.wf (OpenSpec.ofChange Rows.fnExactJoinGroupSpec)) = true := by kernel_rfl
theorem jf1 : (laidOutB Try.prog) = true := jz1
theorem jf2 : (mapsRowed Try.prog) = true := jz2
theorem jf3 : (Try.f6.params.all (Try.prog.readableRec ·)) = true := by kernel_rfl
theorem jf4 : (namedTie Try.prog Rows.fnExactJoinGroupRow.named Rows.fnExactJoinGroupSpec.vars) = true := by kernel_rfl
theorem jf5 : (Rows.fnExactJoinGroupRow.stops == []) = true := by kernel_rfl
theorem jf6 : (Try.prog.stops == []) = true := by kernel_rfl
theorem jf7 : (Rows.fnExactJoinGroupRow.knobs == []) = true := by kernel_rfl
theorem jf8 : (Try.prog.stopKnobs == []) = true := by kernel_rfl
theorem jf9 : (Rows.fnExactJoinGroupRow.inPlace == Try.prog.inPlace 6) = true := by kernel_rfl
theorem jf10 : (Rows.fnExactJoinGroupRow.unfollowed == Try.prog.unfollowed 6) = true := by kernel_rfl
theorem jf11 : (Rows.fnExactJoinGroupRow.recurses == Try.prog.recurses 6) = true := by kernel_rfl
theorem jf12 : (Rows.fnExactJoinGroupRow.named == Try.prog.varsNamed 6) = true := by kernel_rfl
theorem jf13 : (Rows.fnExactJoinGroupRow.maps == (Try.f6.params.toList ++ Rows.fnExactJoinGroupSpec.plain.varTypes Try.prog).any (Try.prog.mapsRec ·)) = true := by kernel_rfl
theorem jf14 : (Rows.fnExactJoinGroupRow.ifaces == (Try.f6.params.toList ++ Rows.fnExactJoinGroupSpec.plain.varTypes Try.prog).any (Try.prog.ifacesRec ·)) = true := by kernel_rfl
theorem jf15 : (Rows.fnExactJoinGroupRow.mapsOut == Try.prog.mapsAmong Try.f6.resultTypes.toList) = true := by kernel_rfl
theorem jf16 : (Rows.fnExactJoinGroupRow.loops == (Try.f6.params.toList ++ Rows.fnExactJoinGroupSpec.plain.varTypes Try.prog).any (Try.prog.loopsFrom ·)) = true := by kernel_rfl
theorem jf17 : (Rows.fnExactJoinGroupRow.wideKeys == (Try.f6.params.toList ++ Rows.fnExactJoinGroupSpec.plain.varTypes Try.prog ++ Try.f6.resultTypes.toList).any (Try.prog.wideKeysFrom ·)) = true := by kernel_rfl
theorem jf18 : (Rows.fnExactJoinGroupSpec.vars.all (Try.prog.varReadable ·)) = true := by kernel_rfl
theorem jf19 : (Try.f6.resultTypes.all (fun t => Try.prog.readableRec t && decide (t < Try.prog.types.size))) = true := by kernel_rfl
theorem jf20 : (Rows.fnExactJoinGroupRow.ifacesOut == Try.f6.resultTypes.toList.any (Try.prog.ifacesRec ·)) = true := by kernel_rfl
theorem jf21 : (Rows.fnExactJoinGroupRow.loopsOut == Try.f6.resultTypes.toList.any (Try.prog.loopsFrom ·)) = true := by kernel_rfl
theorem jf22 : (Rows.fnExactJoinGroupRow.plainKeys == Try.prog.plainKeys) = true := by kernel_rfl
theorem jf23 : (Rows.fnExactJoinGroupRow.shortTexts.isNone) = true := by kernel_rfl
theorem jf24 : (Try.prog.stopsHeard) = true := jz24
theorem jf25 : (Try.prog.mayEnter) = true := jz25
theorem jf26 : (Rows.fnExactJoinGroupRow.lifted == Try.prog.liftsFinal) = true := jz26
theorem jf27 : (Try.prog.make == some Rows.fnExactJoinGroupRow.make) = true := jz27
theorem jf29 : (Rows.fnExactJoinGroupRow.pinned == Rows.fnExactJoinGroupRow.pinnedBy) = true := by kernel_rfl
theorem jf30 : (Rows.fnExactJoinGroupRow.veiled == (Try.f6.params.toList ++ Rows.fnExactJoinGroupSpec.plain.varTypes Try.prog ++ Try.f6.resultTypes.toList).any (Try.prog.veiledRec ·)) = true := by kernel_rfl
theorem jf31 : (Rows.fnExactJoinGroupRow.veiledFits Try.prog Try.f6.params.toList (Try.f6.params.toList ++ Rows.fnExactJoinGroupSpec.plain.varTypes Try.prog ++ Try.f6.resultTypes.toList)) = true := by kernel_rfl
theorem joined : joinedFacts Try.prog 6 Try.f6 Rows.fnExactJoinGroupSpec Rows.fnExactJoinGroupRow = true := joined_of jf0 jf1 jf2 jf3 jf4 jf5 jf6 jf7 jf8 jf9 jf10 jf11 jf12 jf13 jf14 jf15 jf16 jf17 jf18 jf19 jf20 jf21 jf22 jf23 jf24 jf25 jf26 jf27 (by kernel_rfl) jf29 jf30 jf31
end Go.Proofs.Ytdfbaedkcfhdfaa
