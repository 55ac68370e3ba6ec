/- The closed facts of the row FnExactReadPolicy, one theorem each. -/
import Derived.Test.YtaolcbhncnpldaaGreatDoorJ0
namespace Go.Proofs.YtaolcbhncnpldaaGreatDoor
open Go
theorem jf0 : (Rows.fnExactReadPolicyRow.wf (OpenSpec.ofChange Rows.fnExactReadPolicySpec)) = true := by kernel_rfl
theorem jf1 : (laidOutB Tryz.prog) = true := jz1
theorem jf2 : (mapsRowed Tryz.prog) = true := jz2
theorem jf3 : (Tryz.f4.params.all (Tryz.prog.readableRec ·)) = true := by kernel_rfl
theorem jf4 : (namedTie Tryz.prog Rows.fnExactReadPolicyRow.named Rows.fnExactReadPolicySpec.vars) = true := by kernel_rfl
theorem jf5 : (Rows.fnExactReadPolicyRow.stops == []) = true := by kernel_rfl
theorem jf6 : (Tryz.prog.stops == []) = true := by kernel_rfl
theorem jf7 : (Rows.fnExactReadPolicyRow.knobs == []) = true := by kernel_rfl
theorem jf8 : (Tryz.prog.stopKnobs == []) = true := by kernel_rfl
theorem jf9 : (Rows.fnExactReadPolicyRow.inPlace == Tryz.prog.inPlace 4) = true := by kernel_rfl
theorem jf10 : (Rows.fnExactReadPolicyRow.unfollowed == Tryz.prog.unfollowed 4) = true := by kernel_rfl
theorem jf11 : (Rows.fnExactReadPolicyRow.recurses == Tryz.prog.recurses 4) = true := by kernel_rfl
theorem jf12 : (Rows.fnExactReadPolicyRow.named == Tryz.prog.varsNamed 4) = true := by kernel_rfl
theorem jf13 : (Rows.fnExactReadPolicyRow.maps == (Tryz.f4.params.toList ++ Rows.fnExactReadPolicySpec.plain.varTypes Tryz.prog).any (Tryz.prog.mapsRec ·)) = true := by kernel_rfl
theorem jf14 : (Rows.fnExactReadPolicyRow.ifaces == (Tryz.f4.params.toList ++ Rows.fnExactReadPolicySpec.plain.varTypes Tryz.prog).any (Tryz.prog.ifacesRec ·)) = true := by kernel_rfl
theorem jf15 : (Rows.fnExactReadPolicyRow.mapsOut == Tryz.prog.mapsAmong Tryz.f4.resultTypes.toList) = true := by kernel_rfl
theorem jf16 : (Rows.fnExactReadPolicyRow.loops == (Tryz.f4.params.toList ++ Rows.fnExactReadPolicySpec.plain.varTypes Tryz.prog).any (Tryz.prog.loopsFrom ·)) = true := by kernel_rfl
theorem jf17 : (Rows.fnExactReadPolicyRow.wideKeys == (Tryz.f4.params.toList ++ Rows.fnExactReadPolicySpec.plain.varTypes Tryz.prog ++ Tryz.f4.resultTypes.toList).any (Tryz.prog.wideKeysFrom ·)) = true := by kernel_rfl
theorem jf18 : (Rows.fnExactReadPolicySpec.vars.all (Tryz.prog.varReadable ·)) = true := by kernel_rfl
theorem jf19 : (Tryz.f4.resultTypes.all (fun t => Tryz.prog.readableRec t && decide (t < Tryz.prog.types.size))) = true := by kernel_rfl
theorem jf20 : (Rows.fnExactReadPolicyRow.ifacesOut == Tryz.f4.resultTypes.toList.any (Tryz.prog.ifacesRec ·)) = true := by kernel_rfl
theorem jf21 : (Rows.fnExactReadPolicyRow.loopsOut == Tryz.f4.resultTypes.toList.any (Tryz.prog.loopsFrom ·)) = true := by kernel_rfl
theorem jf22 : (Rows.fnExactReadPolicyRow.plainKeys == Tryz.prog.plainKeys) = true := by kernel_rfl
theorem jf23 : (Rows.fnExactReadPolicyRow.shortTexts.isNone) = true := by kernel_rfl
theorem jf24 : (Tryz.prog.stopsHeard) = true := jz24
theorem jf25 : (Tryz.prog.mayEnter) = true := jz25
theorem jf26 : (Rows.fnExactReadPolicyRow.lifted == Tryz.prog.liftsFinal) = true := jz26
theorem jf27 : (Tryz.prog.make == some Rows.fnExactReadPolicyRow.make) = true := jz27
theorem jf29 : (Rows.fnExactReadPolicyRow.pinned == Rows.fnExactReadPolicyRow.pinnedBy) = true := by kernel_rfl
theorem jf30 : (Rows.fnExactReadPolicyRow.veiled == (Tryz.f4.params.toList ++ Rows.fnExactReadPolicySpec.plain.varTypes Tryz.prog ++ Tryz.f4.resultTypes.toList).any (Tryz.prog.veiledRec ·)) = true := by kernel_rfl
theorem jf31 : (Rows.fnExactReadPolicyRow.veiledFits Tryz.prog Tryz.f4.params.toList (Tryz.f4.params.toList ++ Rows.fnExactReadPolicySpec.plain.varTypes Tryz.prog ++ Tryz.f4.resultTypes.toList)) = true := by kernel_rfl
theorem joined : joinedFacts Tryz.prog 4 Tryz.f4 Rows.fnExactReadPolicySpec Rows.fnExactReadPolicyRow = true := joined_of jf0 jf1 jf2 jf3 jf4 jf5 jf6 jf7 jf8 jf9 jf10 jf11 jf12 jf13 jf14 jf15 jf16 jf17 jf18 jf19 jf20 jf21 jf22 jf23 jf24 jf25 jf26 jf27 (by kernel_rfl) jf29 jf30 jf31
end Go.Proofs.YtaolcbhncnpldaaGreatDoor
