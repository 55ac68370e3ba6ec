/- The closed facts of the row FnGainedActs, one theorem each. -/
import Derived.Test.YtfdjfiabdgmlhaaJ0
namespace Go.Proofs.Ytfdjfiabdgmlhaa
open Go
theorem jf0 : (Rows.fnGainedActsRow.wf (OpenSpec.ofChange Rows.fnGainedActsSpec)) = true := by kernel_rfl
theorem jf1 : (laidOutB Try.prog) = true := jz1
theorem jf2 : (mapsRowed Try.prog) = true := jz2
theorem jf3 : (Try.f12.params.all (Try.prog.readableRec ·)) = true := by kernel_rfl
theorem jf4 : (namedTie Try.prog Rows.fnGainedActsRow.named Rows.fnGainedActsSpec.vars) = true := by kernel_rfl
theorem jf5 : (Rows.fnGainedActsRow.stops == []) = true := by kernel_rfl
theorem jf6 : (Try.prog.stops == []) = true := by kernel_rfl
theorem jf7 : (Rows.fnGainedActsRow.knobs == []) = true := by kernel_rfl
theorem jf8 : (Try.prog.stopKnobs == []) = true := by kernel_rfl
theorem jf9 : (Rows.fnGainedActsRow.inPlace == Try.prog.inPlace 12) = true := by kernel_rfl
theorem jf10 : (Rows.fnGainedActsRow.unfollowed == Try.prog.unfollowed 12) = true := by kernel_rfl
theorem jf11 : (Rows.fnGainedActsRow.recurses == Try.prog.recurses 12) = true := by kernel_rfl
theorem jf12 : (Rows.fnGainedActsRow.named == Try.prog.varsNamed 12) = true := by kernel_rfl
theorem jf13 : (Rows.fnGainedActsRow.maps == (Try.f12.params.toList ++ Rows.fnGainedActsSpec.plain.varTypes Try.prog).any (Try.prog.mapsRec ·)) = true := by kernel_rfl
theorem jf14 : (Rows.fnGainedActsRow.ifaces == (Try.f12.params.toList ++ Rows.fnGainedActsSpec.plain.varTypes Try.prog).any (Try.prog.ifacesRec ·)) = true := by kernel_rfl
theorem jf15 : (Rows.fnGainedActsRow.mapsOut == Try.prog.mapsAmong Try.f12.resultTypes.toList) = true := by kernel_rfl
theorem jf16 : (Rows.fnGainedActsRow.loops == (Try.f12.params.toList ++ Rows.fnGainedActsSpec.plain.varTypes Try.prog).any (Try.prog.loopsFrom ·)) = true := by kernel_rfl
theorem jf17 : (Rows.fnGainedActsRow.wideKeys == (Try.f12.params.toList ++ Rows.fnGainedActsSpec.plain.varTypes Try.prog ++ Try.f12.resultTypes.toList).any (Try.prog.wideKeysFrom ·)) = true := by kernel_rfl
theorem jf18 : (Rows.fnGainedActsSpec.vars.all (Try.prog.varReadable ·)) = true := by kernel_rfl
theorem jf19 : (Try.f12.resultTypes.all (fun t => Try.prog.readableRec t && decide (t < Try.prog.types.size))) = true := by kernel_rfl
theorem jf20 : (Rows.fnGainedActsRow.ifacesOut == Try.f12.resultTypes.toList.any (Try.prog.ifacesRec ·)) = true := by kernel_rfl
theorem jf21 : (Rows.fnGainedActsRow.loopsOut == Try.f12.resultTypes.toList.any (Try.prog.loopsFrom ·)) = true := by kernel_rfl
theorem jf22 : (Rows.fnGainedActsRow.plainKeys == Try.prog.plainKeys) = true := by kernel_rfl
theorem jf23 : (Rows.fnGainedActsRow.shortTexts.isNone) = true := by kernel_rfl
theorem jf24 : (Try.prog.stopsHeard) = true := jz24
theorem jf25 : (Try.prog.mayEnter) = true := jz25
theorem jf26 : (Rows.fnGainedActsRow.lifted == Try.prog.liftsFinal) = true := jz26
theorem jf27 : (Try.prog.make == some Rows.fnGainedActsRow.make) = true := jz27
theorem jf29 : (Rows.fnGainedActsRow.pinned == Rows.fnGainedActsRow.pinnedBy) = true := by kernel_rfl
theorem jf30 : (Rows.fnGainedActsRow.veiled == (Try.f12.params.toList ++ Rows.fnGainedActsSpec.plain.varTypes Try.prog ++ Try.f12.resultTypes.toList).any (Try.prog.veiledRec ·)) = true := by kernel_rfl
theorem jf31 : (Rows.fnGainedActsRow.veiledFits Try.prog Try.f12.params.toList (Try.f12.params.toList ++ Rows.fnGainedActsSpec.plain.varTypes Try.prog ++ Try.f12.resultTypes.toList)) = true := by kernel_rfl
theorem joined : joinedFacts Try.prog 12 Try.f12 Rows.fnGainedActsSpec Rows.fnGainedActsRow = true := joined_of jf0 jf1 jf2 jf3 jf4 jf5 jf6 jf7 jf8 jf9 jf10 jf11 jf12 jf13 jf14 jf15 jf16 jf17 jf18 jf19 jf20 jf21 jf22 jf23 jf24 jf25 jf26 jf27 (by kernel_rfl) jf29 jf30 jf31
end Go.Proofs.Ytfdjfiabdgmlhaa
