/- The closed facts of the row FnShadowed, one theorem each. -/
import Derived.Test.YtfdjfiabdgmlhaaJ0
namespace Go.Proofs.Ytfdjfiabdgmlhaa
open Go
theorem jf0 : (Rows.fnShadowedRow.wf (OpenSpec.ofChange Rows.fnShadowedSpec)) = true := by kernel_rfl
theorem jf1 : (laidOutB Try.prog) = true := jz1
theorem jf2 : (mapsRowed Try.prog) = true := jz2
theorem jf3 : (Try.f14.params.all (Try.prog.readableRec ·)) = true := by kernel_rfl
theorem jf4 : (namedTie Try.prog Rows.fnShadowedRow.named Rows.fnShadowedSpec.vars) = true := by kernel_rfl
theorem jf5 : (Rows.fnShadowedRow.stops == []) = true := by kernel_rfl
theorem jf6 : (Try.prog.stops == []) = true := by kernel_rfl
theorem jf7 : (Rows.fnShadowedRow.knobs == []) = true := by kernel_rfl
theorem jf8 : (Try.prog.stopKnobs == []) = true := by kernel_rfl
theorem jf9 : (Rows.fnShadowedRow.inPlace == Try.prog.inPlace 14) = true := by kernel_rfl
theorem jf10 : (Rows.fnShadowedRow.unfollowed == Try.prog.unfollowed 14) = true := by kernel_rfl
theorem jf11 : (Rows.fnShadowedRow.recurses == Try.prog.recurses 14) = true := by kernel_rfl
theorem jf12 : (Rows.fnShadowedRow.named == Try.prog.varsNamed 14) = true := by kernel_rfl
theorem jf13 : (Rows.fnShadowedRow.maps == (Try.f14.params.toList ++ Rows.fnShadowedSpec.plain.varTypes Try.prog).any (Try.prog.mapsRec ·)) = true := by kernel_rfl
theorem jf14 : (Rows.fnShadowedRow.ifaces == (Try.f14.params.toList ++ Rows.fnShadowedSpec.plain.varTypes Try.prog).any (Try.prog.ifacesRec ·)) = true := by kernel_rfl
theorem jf15 : (Rows.fnShadowedRow.mapsOut == Try.prog.mapsAmong Try.f14.resultTypes.toList) = true := by kernel_rfl
theorem jf16 : (Rows.fnShadowedRow.loops == (Try.f14.params.toList ++ Rows.fnShadowedSpec.plain.varTypes Try.prog).any (Try.prog.loopsFrom ·)) = true := by kernel_rfl
theorem jf17 : (Rows.fnShadowedRow.wideKeys == (Try.f14.params.toList ++ Rows.fnShadowedSpec.plain.varTypes Try.prog ++ Try.f14.resultTypes.toList).any (Try.prog.wideKeysFrom ·)) = true := by kernel_rfl
theorem jf18 : (Rows.fnShadowedSpec.vars.all (Try.prog.varReadable ·)) = true := by kernel_rfl
theorem jf19 : (Try.f14.resultTypes.all (fun t => Try.prog.readableRec t && decide (t < Try.prog.types.size))) = true := by kernel_rfl
theorem jf20 : (Rows.fnShadowedRow.ifacesOut == Try.f14.resultTypes.toList.any (Try.prog.ifacesRec ·)) = true := by kernel_rfl
theorem jf21 : (Rows.fnShadowedRow.loopsOut == Try.f14.resultTypes.toList.any (Try.prog.loopsFrom ·)) = true := by kernel_rfl
theorem jf22 : (Rows.fnShadowedRow.plainKeys == Try.prog.plainKeys) = true := by kernel_rfl
theorem jf23 : (Rows.fnShadowedRow.shortTexts.isNone) = true := by kernel_rfl
theorem jf24 : (Try.prog.stopsHeard) = true := jz24
theorem jf25 : (Try.prog.mayEnter) = true := jz25
theorem jf26 : (Rows.fnShadowedRow.lifted == Try.prog.liftsFinal) = true := jz26
theorem jf27 : (Try.prog.make == some Rows.fnShadowedRow.make) = true := jz27
theorem jf29 : (Rows.fnShadowedRow.pinned == Rows.fnShadowedRow.pinnedBy) = true := by kernel_rfl
theorem jf30 : (Rows.fnShadowedRow.veiled == (Try.f14.params.toList ++ Rows.fnShadowedSpec.plain.varTypes Try.prog ++ Try.f14.resultTypes.toList).any (Try.prog.veiledRec ·)) = true := by kernel_rfl
theorem jf31 : (Rows.fnShadowedRow.veiledFits Try.prog Try.f14.params.toList (Try.f14.params.toList ++ Rows.fnShadowedSpec.plain.varTypes Try.prog ++ Try.f14.resultTypes.toList)) = true := by kernel_rfl
theorem joined : joinedFacts Try.prog 14 Try.f14 Rows.fnShadowedSpec Rows.fnShadowedRow = true := joined_of jf0 jf1 jf2 jf3 jf4 jf5 jf6 jf7 jf8 jf9 jf10 jf11 jf12 jf13 jf14 jf15 jf16 jf17 jf18 jf19 jf20 jf21 jf22 jf23 jf24 jf25 jf26 jf27 (by kernel_rfl) jf29 jf30 jf31
end Go.Proofs.Ytfdjfiabdgmlhaa
