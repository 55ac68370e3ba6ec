/- The closed facts of the row FnExactGainedActs, one theorem each. -/
import Derived.Test.YtmlnpimlfbfkbaaGreatJ0
namespace Go.Proofs.YtmlnpimlfbfkbaaGreat
open Go
theorem jf0 : (Rows.fnExactGainedActsRow.wf (OpenSpec.ofChange Rows.fnExactGainedActsSpec)) = true := by kernel_rfl
theorem jf1 : (laidOutB Tryz.prog) = true := jz1
theorem jf2 : (mapsRowed Tryz.prog) = true := jz2
theorem jf3 : (Tryz.f8.params.all (Tryz.prog.readableRec ·)) = true := by kernel_rfl
theorem jf4 : (namedTie Tryz.prog Rows.fnExactGainedActsRow.named Rows.fnExactGainedActsSpec.vars) = true := by kernel_rfl
theorem jf5 : (Rows.fnExactGainedActsRow.stops == []) = true := by kernel_rfl
theorem jf6 : (Tryz.prog.stops == []) = true := by kernel_rfl
theorem jf7 : (Rows.fnExactGainedActsRow.knobs == []) = true := by kernel_rfl
theorem jf8 : (Tryz.prog.stopKnobs == []) = true := by kernel_rfl
theorem jf9 : (Rows.fnExactGainedActsRow.inPlace == Tryz.prog.inPlace 8) = true := by kernel_rfl
theorem jf10 : (Rows.fnExactGainedActsRow.unfollowed == Tryz.prog.unfollowed 8) = true := by kernel_rfl
theorem jf11 : (Rows.fnExactGainedActsRow.recurses == Tryz.prog.recurses 8) = true := by kernel_rfl
theorem jf12 : (Rows.fnExactGainedActsRow.named == Tryz.prog.varsNamed 8) = true := by kernel_rfl
theorem jf13 : (Rows.fnExactGainedActsRow.maps == (Tryz.f8.params.toList ++ Rows.fnExactGainedActsSpec.plain.varTypes Tryz.prog).any (Tryz.prog.mapsRec ·)) = true := by kernel_rfl
theorem jf14 : (Rows.fnExactGainedActsRow.ifaces == (Tryz.f8.params.toList ++ Rows.fnExactGainedActsSpec.plain.varTypes Tryz.prog).any (Tryz.prog.ifacesRec ·)) = true := by kernel_rfl
theorem jf15 : (Rows.fnExactGainedActsRow.mapsOut == Tryz.prog.mapsAmong Tryz.f8.resultTypes.toList) = true := by kernel_rfl
theorem jf16 : (Rows.fnExactGainedActsRow.loops == (Tryz.f8.params.toList ++ Rows.fnExactGainedActsSpec.plain.varTypes Tryz.prog).any (Tryz.prog.loopsFrom ·)) = true := by kernel_rfl
theorem jf17 : (Rows.fnExactGainedActsRow.wideKeys == (Tryz.f8.params.toList ++ Rows.fnExactGainedActsSpec.plain.varTypes Tryz.prog ++ Tryz.f8.resultTypes.toList).any (Tryz.prog.wideKeysFrom ·)) = true := by kernel_rfl
theorem jf18 : (Rows.fnExactGainedActsSpec.vars.all (Tryz.prog.varReadable ·)) = true := by kernel_rfl
theorem jf19 : (Tryz.f8.resultTypes.all (fun t => Tryz.prog.readableRec t && decide (t < Tryz.prog.types.size))) = true := by kernel_rfl
theorem jf20 : (Rows.fnExactGainedActsRow.ifacesOut == Tryz.f8.resultTypes.toList.any (Tryz.prog.ifacesRec ·)) = true := by kernel_rfl
theorem jf21 : (Rows.fnExactGainedActsRow.loopsOut == Tryz.f8.resultTypes.toList.any (Tryz.prog.loopsFrom ·)) = true := by kernel_rfl
theorem jf22 : (Rows.fnExactGainedActsRow.plainKeys == Tryz.prog.plainKeys) = true := by kernel_rfl
theorem jf23 : (Rows.fnExactGainedActsRow.shortTexts.isNone) = true := by kernel_rfl
theorem jf24 : (Tryz.prog.stopsHeard) = true := jz24
theorem jf25 : (Tryz.prog.mayEnter) = true := jz25
theorem jf26 : (Rows.fnExactGainedActsRow.lifted == Tryz.prog.liftsFinal) = true := jz26
theorem jf27 : (Tryz.prog.make == some Rows.fnExactGainedActsRow.make) = true := jz27
theorem jf29 : (Rows.fnExactGainedActsRow.pinned == Rows.fnExactGainedActsRow.pinnedBy) = true := by kernel_rfl
theorem jf30 : (Rows.fnExactGainedActsRow.veiled == (Tryz.f8.params.toList ++ Rows.fnExactGainedActsSpec.plain.varTypes Tryz.prog ++ Tryz.f8.resultTypes.toList).any (Tryz.prog.veiledRec ·)) = true := by kernel_rfl
theorem jf31 : (Rows.fnExactGainedActsRow.veiledFits Tryz.prog Tryz.f8.params.toList (Tryz.f8.params.toList ++ Rows.fnExactGainedActsSpec.plain.varTypes Tryz.prog ++ Tryz.f8.resultTypes.toList)) = true := by kernel_rfl
theorem joined : joinedFacts Tryz.prog 8 Tryz.f8 Rows.fnExactGainedActsSpec Rows.fnExactGainedActsRow = true := joined_of jf0 jf1 jf2 jf3 jf4 jf5 jf6 jf7 jf8 jf9 jf10 jf11 jf12 jf13 jf14 jf15 jf16 jf17 jf18 jf19 jf20 jf21 jf22 jf23 jf24 jf25 jf26 jf27 (by kernel_rfl) jf29 jf30 jf31
end Go.Proofs.YtmlnpimlfbfkbaaGreat
