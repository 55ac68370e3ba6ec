/- The closed facts of the row FnPushNot, one theorem each. -/
import Derived.Test.YtdbakncnhmphpaaJ0
namespace Go.Proofs.Ytdbakncnhmphpaa
open Go
theorem jf0 : (Rows.fnPushNotRow.wf (OpenSpec.ofChange Rows.fnPushNotSpec)) = true := by kernel_rfl
theorem jf1 : (laidOutB Try.prog) = true := jz1
theorem jf2 : (mapsRowed Try.prog) = true := jz2
theorem jf3 : (Try.f4.params.all (Try.prog.readableRec ·)) = true := by kernel_rfl
theorem jf4 : (namedTie Try.prog Rows.fnPushNotRow.named Rows.fnPushNotSpec.vars) = true := by kernel_rfl
theorem jf5 : (Rows.fnPushNotRow.stops == []) = true := by kernel_rfl
theorem jf6 : (Try.prog.stops == []) = true := by kernel_rfl
theorem jf7 : (Rows.fnPushNotRow.knobs == []) = true := by kernel_rfl
theorem jf8 : (Try.prog.stopKnobs == []) = true := by kernel_rfl
theorem jf9 : (Rows.fnPushNotRow.inPlace == Try.prog.inPlace 4) = true := by kernel_rfl
theorem jf10 : (Rows.fnPushNotRow.unfollowed == Try.prog.unfollowed 4) = true := by kernel_rfl
theorem jf11 : (Rows.fnPushNotRow.recurses == Try.prog.recurses 4) = true := by kernel_rfl
theorem jf12 : (Rows.fnPushNotRow.named == Try.prog.varsNamed 4) = true := by kernel_rfl
theorem jf13 : (Rows.fnPushNotRow.maps == (Try.f4.params.toList ++ Rows.fnPushNotSpec.plain.varTypes Try.prog).any (Try.prog.mapsRec ·)) = true := by kernel_rfl
theorem jf14 : (Rows.fnPushNotRow.ifaces == (Try.f4.params.toList ++ Rows.fnPushNotSpec.plain.varTypes Try.prog).any (Try.prog.ifacesRec ·)) = true := by kernel_rfl
theorem jf15 : (Rows.fnPushNotRow.mapsOut == Try.prog.mapsAmong Try.f4.resultTypes.toList) = true := by kernel_rfl
theorem jf16 : (Rows.fnPushNotRow.loops == (Try.f4.params.toList ++ Rows.fnPushNotSpec.plain.varTypes Try.prog).any (Try.prog.loopsFrom ·)) = true := by kernel_rfl
theorem jf17 : (Rows.fnPushNotRow.wideKeys == (Try.f4.params.toList ++ Rows.fnPushNotSpec.plain.varTypes Try.prog ++ Try.f4.resultTypes.toList).any (Try.prog.wideKeysFrom ·)) = true := by kernel_rfl
theorem jf18 : (Rows.fnPushNotSpec.vars.all (Try.prog.varReadable ·)) = true := by kernel_rfl
theorem jf19 : (Try.f4.resultTypes.all (fun t => Try.prog.readableRec t && decide (t < Try.prog.types.size))) = true := by kernel_rfl
theorem jf20 : (Rows.fnPushNotRow.ifacesOut == Try.f4.resultTypes.toList.any (Try.prog.ifacesRec ·)) = true := by kernel_rfl
theorem jf21 : (Rows.fnPushNotRow.loopsOut == Try.f4.resultTypes.toList.any (Try.prog.loopsFrom ·)) = true := by kernel_rfl
theorem jf22 : (Rows.fnPushNotRow.plainKeys == Try.prog.plainKeys) = true := by kernel_rfl
theorem jf23 : (Rows.fnPushNotRow.shortTexts.isNone) = true := by kernel_rfl
theorem jf24 : (Try.prog.stopsHeard) = true := jz24
theorem jf25 : (Try.prog.mayEnter) = true := jz25
theorem jf26 : (Rows.fnPushNotRow.lifted == Try.prog.liftsFinal) = true := jz26
theorem jf27 : (Try.prog.make == some Rows.fnPushNotRow.make) = true := jz27
theorem jf29 : (Rows.fnPushNotRow.pinned == Rows.fnPushNotRow.pinnedBy) = true := by kernel_rfl
theorem jf30 : (Rows.fnPushNotRow.veiled == (Try.f4.params.toList ++ Rows.fnPushNotSpec.plain.varTypes Try.prog ++ Try.f4.resultTypes.toList).any (Try.prog.veiledRec ·)) = true := by kernel_rfl
theorem jf31 : (Rows.fnPushNotRow.veiledFits Try.prog Try.f4.params.toList (Try.f4.params.toList ++ Rows.fnPushNotSpec.plain.varTypes Try.prog ++ Try.f4.resultTypes.toList)) = true := by kernel_rfl
theorem joined : joinedFacts Try.prog 4 Try.f4 Rows.fnPushNotSpec Rows.fnPushNotRow = true := joined_of jf0 jf1 jf2 jf3 jf4 jf5 jf6 jf7 jf8 jf9 jf10 jf11 jf12 jf13 jf14 jf15 jf16 jf17 jf18 jf19 jf20 jf21 jf22 jf23 jf24 jf25 jf26 jf27 (by kernel_rfl) jf29 jf30 jf31
end Go.Proofs.Ytdbakncnhmphpaa
