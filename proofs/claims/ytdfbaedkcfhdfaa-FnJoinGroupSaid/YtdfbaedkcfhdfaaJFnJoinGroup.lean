/- The closed facts of the row FnJoinGroup, one theorem each. -/
import Derived.Test.YtdfbaedkcfhdfaaJ0
namespace Go.Proofs.Ytdfbaedkcfhdfaa
open Go
theorem jf0 : (Rows.fnJoinGroupRow.wf (OpenSpec.ofChange Rows.fnJoinGroupSpec)) = true := by kernel_rfl
theorem jf1 : (laidOutB Try.prog) = true := jz1
theorem jf2 : (mapsRowed Try.prog) = true := jz2
theorem jf3 : (Try.f5.params.all (Try.prog.readableRec ·)) = true := by kernel_rfl
theorem jf4 : (namedTie Try.prog Rows.fnJoinGroupRow.named Rows.fnJoinGroupSpec.vars) = true := by kernel_rfl
theorem jf5 : (Rows.fnJoinGroupRow.stops == []) = true := by kernel_rfl
theorem jf6 : (Try.prog.stops == []) = true := by kernel_rfl
theorem jf7 : (Rows.fnJoinGroupRow.knobs == []) = true := by kernel_rfl
theorem jf8 : (Try.prog.stopKnobs == []) = true := by kernel_rfl
theorem jf9 : (Rows.fnJoinGroupRow.inPlace == Try.prog.inPlace 5) = true := by kernel_rfl
theorem jf10 : (Rows.fnJoinGroupRow.unfollowed == Try.prog.unfollowed 5) = true := by kernel_rfl
theorem jf11 : (Rows.fnJoinGroupRow.recurses == Try.prog.recurses 5) = true := by kernel_rfl
theorem jf12 : (Rows.fnJoinGroupRow.named == Try.prog.varsNamed 5) = true := by kernel_rfl
theorem jf13 : (Rows.fnJoinGroupRow.maps == (Try.f5.params.toList ++ Rows.fnJoinGroupSpec.plain.varTypes Try.prog).any (Try.prog.mapsRec ·)) = true := by kernel_rfl
theorem jf14 : (Rows.fnJoinGroupRow.ifaces == (Try.f5.params.toList ++ Rows.fnJoinGroupSpec.plain.varTypes Try.prog).any (Try.prog.ifacesRec ·)) = true := by kernel_rfl
theorem jf15 : (Rows.fnJoinGroupRow.mapsOut == Try.prog.mapsAmong Try.f5.resultTypes.toList) = true := by kernel_rfl
theorem jf16 : (Rows.fnJoinGroupRow.loops == (Try.f5.params.toList ++ Rows.fnJoinGroupSpec.plain.varTypes Try.prog).any (Try.prog.loopsFrom ·)) = true := by kernel_rfl
theorem jf17 : (Rows.fnJoinGroupRow.wideKeys == (Try.f5.params.toList ++ Rows.fnJoinGroupSpec.plain.varTypes Try.prog ++ Try.f5.resultTypes.toList).any (Try.prog.wideKeysFrom ·)) = true := by kernel_rfl
theorem jf18 : (Rows.fnJoinGroupSpec.vars.all (Try.prog.varReadable ·)) = true := by kernel_rfl
theorem jf19 : (Try.f5.resultTypes.all (fun t => Try.prog.readableRec t && decide (t < Try.prog.types.size))) = true := by kernel_rfl
theorem jf20 : (Rows.fnJoinGroupRow.ifacesOut == Try.f5.resultTypes.toList.any (Try.prog.ifacesRec ·)) = true := by kernel_rfl
theorem jf21 : (Rows.fnJoinGroupRow.loopsOut == Try.f5.resultTypes.toList.any (Try.prog.loopsFrom ·)) = true := by kernel_rfl
theorem jf22 : (Rows.fnJoinGroupRow.plainKeys == Try.prog.plainKeys) = true := by kernel_rfl
theorem jf23 : (Rows.fnJoinGroupRow.shortTexts.isNone) = true := by kernel_rfl
theorem jf24 : (Try.prog.stopsHeard) = true := jz24
theorem jf25 : (Try.prog.mayEnter) = true := jz25
theorem jf26 : (Rows.fnJoinGroupRow.lifted == Try.prog.liftsFinal) = true := jz26
theorem jf27 : (Try.prog.make == some Rows.fnJoinGroupRow.make) = true := jz27
theorem jf29 : (Rows.fnJoinGroupRow.pinned == Rows.fnJoinGroupRow.pinnedBy) = true := by kernel_rfl
theorem jf30 : (Rows.fnJoinGroupRow.veiled == (Try.f5.params.toList ++ Rows.fnJoinGroupSpec.plain.varTypes Try.prog ++ Try.f5.resultTypes.toList).any (Try.prog.veiledRec ·)) = true := by kernel_rfl
theorem jf31 : (Rows.fnJoinGroupRow.veiledFits Try.prog Try.f5.params.toList (Try.f5.params.toList ++ Rows.fnJoinGroupSpec.plain.varTypes Try.prog ++ Try.f5.resultTypes.toList)) = true := by kernel_rfl
theorem joined : joinedFacts Try.prog 5 Try.f5 Rows.fnJoinGroupSpec Rows.fnJoinGroupRow = true := joined_of jf0 jf1 jf2 jf3 jf4 jf5 jf6 jf7 jf8 jf9 jf10 jf11 jf12 jf13 jf14 jf15 jf16 jf17 jf18 jf19 jf20 jf21 jf22 jf23 jf24 jf25 jf26 jf27 (by kernel_rfl) jf29 jf30 jf31
end Go.Proofs.Ytdfbaedkcfhdfaa
