/- The closed facts of the row FnReadPolicy, one theorem each. -/
import Derived.Test.YtaolcbhncnpldaaGreatDoorJ0
namespace Go.Proofs.YtaolcbhncnpldaaGreatDoor
open Go
theorem jf0 : (Rows.fnReadPolicyRow.wf (OpenSpec.ofChange Rows.fnReadPolicySpec)) = true := by kernel_rfl
theorem jf1 : (laidOutB Tryz.prog) = true := jz1
theorem jf2 : (mapsRowed Tryz.prog) = true := jz2
theorem jf3 : (Tryz.f5.params.all (Tryz.prog.readableRec ·)) = true := by kernel_rfl
theorem jf4 : (namedTie Tryz.prog Rows.fnReadPolicyRow.named Rows.fnReadPolicySpec.vars) = true := by kernel_rfl
theorem jf5 : (Rows.fnReadPolicyRow.stops == []) = true := by kernel_rfl
theorem jf6 : (Tryz.prog.stops == []) = true := by kernel_rfl
theorem jf7 : (Rows.fnReadPolicyRow.knobs == []) = true := by kernel_rfl
theorem jf8 : (Tryz.prog.stopKnobs == []) = true := by kernel_rfl
theorem jf9 : (Rows.fnReadPolicyRow.inPlace == Tryz.prog.inPlace 5) = true := by kernel_rfl
theorem jf10 : (Rows.fnReadPolicyRow.unfollowed == Tryz.prog.unfollowed 5) = true := by kernel_rfl
theorem jf11 : (Rows.fnReadPolicyRow.recurses == Tryz.prog.recurses 5) = true := by kernel_rfl
theorem jf12 : (Rows.fnReadPolicyRow.named == Tryz.prog.varsNamed 5) = true := by kernel_rfl
theorem jf13 : (Rows.fnReadPolicyRow.maps == (Tryz.f5.params.toList ++ Rows.fnReadPolicySpec.plain.varTypes Tryz.prog).any (Tryz.prog.mapsRec ·)) = true := by kernel_rfl
theorem jf14 : (Rows.fnReadPolicyRow.ifaces == (Tryz.f5.params.toList ++ Rows.fnReadPolicySpec.plain.varTypes Tryz.prog).any (Tryz.prog.ifacesRec ·)) = true := by kernel_rfl
theorem jf15 : (Rows.fnReadPolicyRow.mapsOut == Tryz.prog.mapsAmong Tryz.f5.resultTypes.toList) = true := by kernel_rfl
theorem jf16 : (Rows.fnReadPolicyRow.loops == (Tryz.f5.params.toList ++ Rows.fnReadPolicySpec.plain.varTypes Tryz.prog).any (Tryz.prog.loopsFrom ·)) = true := by kernel_rfl
theorem jf17 : (Rows.fnReadPolicyRow.wideKeys == (Tryz.f5.params.toList ++ Rows.fnReadPolicySpec.plain.varTypes Tryz.prog ++ Tryz.f5.resultTypes.toList).any (Tryz.prog.wideKeysFrom ·)) = true := by kernel_rfl
theorem jf18 : (Rows.fnReadPolicySpec.vars.all (Tryz.prog.varReadable ·)) = true := by kernel_rfl
theorem jf19 : (Tryz.f5.resultTypes.all (fun t => Tryz.prog.readableRec t && decide (t < Tryz.prog.types.size))) = true := by kernel_rfl
theorem jf20 : (Rows.fnReadPolicyRow.ifacesOut == Tryz.f5.resultTypes.toList.any (Tryz.prog.ifacesRec ·)) = true := by kernel_rfl
theorem jf21 : (Rows.fnReadPolicyRow.loopsOut == Tryz.f5.resultTypes.toList.any (Tryz.prog.loopsFrom ·)) = true := by kernel_rfl
theorem jf22 : (Rows.fnReadPolicyRow.plainKeys == Tryz.prog.plainKeys) = true := by kernel_rfl
theorem jf23 : (Rows.fnReadPolicyRow.shortTexts.isNone) = true := by kernel_rfl
theorem jf24 : (Tryz.prog.stopsHeard) = true := jz24
theorem jf25 : (Tryz.prog.mayEnter) = true := jz25
theorem jf26 : (Rows.fnReadPolicyRow.lifted == Tryz.prog.liftsFinal) = true := jz26
theorem jf27 : (Tryz.prog.make == some Rows.fnReadPolicyRow.make) = true := jz27
theorem jf29 : (Rows.fnReadPolicyRow.pinned == Rows.fnReadPolicyRow.pinnedBy) = true := by kernel_rfl
theorem jf30 : (Rows.fnReadPolicyRow.veiled == (Tryz.f5.params.toList ++ Rows.fnReadPolicySpec.plain.varTypes Tryz.prog ++ Tryz.f5.resultTypes.toList).any (Tryz.prog.veiledRec ·)) = true := by kernel_rfl
theorem jf31 : (Rows.fnReadPolicyRow.veiledFits Tryz.prog Tryz.f5.params.toList (Tryz.f5.params.toList ++ Rows.fnReadPolicySpec.plain.varTypes Tryz.prog ++ Tryz.f5.resultTypes.toList)) = true := by kernel_rfl
theorem joined : joinedFacts Tryz.prog 5 Tryz.f5 Rows.fnReadPolicySpec Rows.fnReadPolicyRow = true := joined_of jf0 jf1 jf2 jf3 jf4 jf5 jf6 jf7 jf8 jf9 jf10 jf11 jf12 jf13 jf14 jf15 jf16 jf17 jf18 jf19 jf20 jf21 jf22 jf23 jf24 jf25 jf26 jf27 (by kernel_rfl) jf29 jf30 jf31
end Go.Proofs.YtaolcbhncnpldaaGreatDoor
