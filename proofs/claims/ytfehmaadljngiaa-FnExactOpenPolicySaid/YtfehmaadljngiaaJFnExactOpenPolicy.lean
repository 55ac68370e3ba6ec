/- The closed facts of the row FnExactOpenPolicy, one theorem each. -/
import Derived.Test.YtfehmaadljngiaaJ0
namespace Go.Proofs.Ytfehmaadljngiaa
open Go
theorem jf0 : (Rows.fnExactOpenPolicyRow.wf (OpenSpec.ofChange Rows.fnExactOpenPolicySpec)) = true := by kernel_rfl
theorem jf1 : (laidOutB Try.prog) = true := jz1
theorem jf2 : (mapsRowed Try.prog) = true := jz2
theorem jf3 : (Try.f3.params.all (Try.prog.readableRec ·)) = true := by kernel_rfl
theorem jf4 : (namedTie Try.prog Rows.fnExactOpenPolicyRow.named Rows.fnExactOpenPolicySpec.vars) = true := by kernel_rfl
theorem jf5 : (Rows.fnExactOpenPolicyRow.stops == []) = true := by kernel_rfl
theorem jf6 : (Try.prog.stops == []) = true := by kernel_rfl
theorem jf7 : (Rows.fnExactOpenPolicyRow.knobs == []) = true := by kernel_rfl
theorem jf8 : (Try.prog.stopKnobs == []) = true := by kernel_rfl
theorem jf9 : (Rows.fnExactOpenPolicyRow.inPlace == Try.prog.inPlace 3) = true := by kernel_rfl
theorem jf10 : (Rows.fnExactOpenPolicyRow.unfollowed == Try.prog.unfollowed 3) = true := by kernel_rfl
theorem jf11 : (Rows.fnExactOpenPolicyRow.recurses == Try.prog.recurses 3) = true := by kernel_rfl
theorem jf12 : (Rows.fnExactOpenPolicyRow.named == Try.prog.varsNamed 3) = true := by kernel_rfl
theorem jf13 : (Rows.fnExactOpenPolicyRow.maps == (Try.f3.params.toList ++ Rows.fnExactOpenPolicySpec.plain.varTypes Try.prog).any (Try.prog.mapsRec ·)) = true := by kernel_rfl
theorem jf14 : (Rows.fnExactOpenPolicyRow.ifaces == (Try.f3.params.toList ++ Rows.fnExactOpenPolicySpec.plain.varTypes Try.prog).any (Try.prog.ifacesRec ·)) = true := by kernel_rfl
theorem jf15 : (Rows.fnExactOpenPolicyRow.mapsOut == Try.prog.mapsAmong Try.f3.resultTypes.toList) = true := by kernel_rfl
theorem jf16 : (Rows.fnExactOpenPolicyRow.loops == (Try.f3.params.toList ++ Rows.fnExactOpenPolicySpec.plain.varTypes Try.prog).any (Try.prog.loopsFrom ·)) = true := by kernel_rfl
theorem jf17 : (Rows.fnExactOpenPolicyRow.wideKeys == (Try.f3.params.toList ++ Rows.fnExactOpenPolicySpec.plain.varTypes Try.prog ++ Try.f3.resultTypes.toList).any (Try.prog.wideKeysFrom ·)) = true := by kernel_rfl
theorem jf18 : (Rows.fnExactOpenPolicySpec.vars.all (Try.prog.varReadable ·)) = true := by kernel_rfl
theorem jf19 : (Try.f3.resultTypes.all (fun t => Try.prog.readableRec t && decide (t < Try.prog.types.size))) = true := by kernel_rfl
theorem jf20 : (Rows.fnExactOpenPolicyRow.ifacesOut == Try.f3.resultTypes.toList.any (Try.prog.ifacesRec ·)) = true := by kernel_rfl
theorem jf21 : (Rows.fnExactOpenPolicyRow.loopsOut == Try.f3.resultTypes.toList.any (Try.prog.loopsFrom ·)) = true := by kernel_rfl
theorem jf22 : (Rows.fnExactOpenPolicyRow.plainKeys == Try.prog.plainKeys) = true := by kernel_rfl
theorem jf23 : (Rows.fnExactOpenPolicyRow.shortTexts.isNone) = true := by kernel_rfl
theorem jf24 : (Try.prog.stopsHeard) = true := jz24
theorem jf25 : (Try.prog.mayEnter) = true := jz25
theorem jf26 : (Rows.fnExactOpenPolicyRow.lifted == Try.prog.liftsFinal) = true := jz26
theorem jf27 : (Try.prog.make == some Rows.fnExactOpenPolicyRow.make) = true := jz27
theorem jf29 : (Rows.fnExactOpenPolicyRow.pinned == Rows.fnExactOpenPolicyRow.pinnedBy) = true := by kernel_rfl
theorem jf30 : (Rows.fnExactOpenPolicyRow.veiled == (Try.f3.params.toList ++ Rows.fnExactOpenPolicySpec.plain.varTypes Try.prog ++ Try.f3.resultTypes.toList).any (Try.prog.veiledRec ·)) = true := by kernel_rfl
theorem jf31 : (Rows.fnExactOpenPolicyRow.veiledFits Try.prog Try.f3.params.toList (Try.f3.params.toList ++ Rows.fnExactOpenPolicySpec.plain.varTypes Try.prog ++ Try.f3.resultTypes.toList)) = true := by kernel_rfl
theorem joined : joinedFacts Try.prog 3 Try.f3 Rows.fnExactOpenPolicySpec Rows.fnExactOpenPolicyRow = true := joined_of jf0 jf1 jf2 jf3 jf4 jf5 jf6 jf7 jf8 jf9 jf10 jf11 jf12 jf13 jf14 jf15 jf16 jf17 jf18 jf19 jf20 jf21 jf22 jf23 jf24 jf25 jf26 jf27 (by kernel_rfl) jf29 jf30 jf31
end Go.Proofs.Ytfehmaadljngiaa
