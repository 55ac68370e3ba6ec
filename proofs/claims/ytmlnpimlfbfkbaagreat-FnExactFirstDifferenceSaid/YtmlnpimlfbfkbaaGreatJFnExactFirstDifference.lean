/- The closed facts of the row FnExactFirstDifference, one theorem each. -/
import Derived.Test.YtmlnpimlfbfkbaaGreatJ0
namespace Go.Proofs.YtmlnpimlfbfkbaaGreat
open Go
theorem jf0 : (Rows.fnExactFirstDifferenceRow.wf (OpenSpec.ofChange Rows.fnExactFirstDifferenceSpec)) = true := by kernel_rfl
theorem jf1 : (laidOutB Tryz.prog) = true := jz1
theorem jf2 : (mapsRowed Tryz.prog) = true := jz2
theorem jf3 : (Tryz.f6.params.all (Tryz.prog.readableRec ·)) = true := by kernel_rfl
theorem jf4 : (namedTie Tryz.prog Rows.fnExactFirstDifferenceRow.named Rows.fnExactFirstDifferenceSpec.vars) = true := by kernel_rfl
theorem jf5 : (Rows.fnExactFirstDifferenceRow.stops == []) = true := by kernel_rfl
theorem jf6 : (Tryz.prog.stops == []) = true := by kernel_rfl
theorem jf7 : (Rows.fnExactFirstDifferenceRow.knobs == []) = true := by kernel_rfl
theorem jf8 : (Tryz.prog.stopKnobs == []) = true := by kernel_rfl
theorem jf9 : (Rows.fnExactFirstDifferenceRow.inPlace == Tryz.prog.inPlace 6) = true := by kernel_rfl
theorem jf10 : (Rows.fnExactFirstDifferenceRow.unfollowed == Tryz.prog.unfollowed 6) = true := by kernel_rfl
theorem jf11 : (Rows.fnExactFirstDifferenceRow.recurses == Tryz.prog.recurses 6) = true := by kernel_rfl
theorem jf12 : (Rows.fnExactFirstDifferenceRow.named == Tryz.prog.varsNamed 6) = true := by kernel_rfl
theorem jf13 : (Rows.fnExactFirstDifferenceRow.maps == (Tryz.f6.params.toList ++ Rows.fnExactFirstDifferenceSpec.plain.varTypes Tryz.prog).any (Tryz.prog.mapsRec ·)) = true := by kernel_rfl
theorem jf14 : (Rows.fnExactFirstDifferenceRow.ifaces == (Tryz.f6.params.toList ++ Rows.fnExactFirstDifferenceSpec.plain.varTypes Tryz.prog).any (Tryz.prog.ifacesRec ·)) = true := by kernel_rfl
theorem jf15 : (Rows.fnExactFirstDifferenceRow.mapsOut == Tryz.prog.mapsAmong Tryz.f6.resultTypes.toList) = true := by kernel_rfl
theorem jf16 : (Rows.fnExactFirstDifferenceRow.loops == (Tryz.f6.params.toList ++ Rows.fnExactFirstDifferenceSpec.plain.varTypes Tryz.prog).any (Tryz.prog.loopsFrom ·)) = true := by kernel_rfl
theorem jf17 : (Rows.fnExactFirstDifferenceRow.wideKeys == (Tryz.f6.params.toList ++ Rows.fnExactFirstDifferenceSpec.plain.varTypes Tryz.prog ++ Tryz.f6.resultTypes.toList).any (Tryz.prog.wideKeysFrom ·)) = true := by kernel_rfl
theorem jf18 : (Rows.fnExactFirstDifferenceSpec.vars.all (Tryz.prog.varReadable ·)) = true := by kernel_rfl
theorem jf19 : (Tryz.f6.resultTypes.all (fun t => Tryz.prog.readableRec t && decide (t < Tryz.prog.types.size))) = true := by kernel_rfl
theorem jf20 : (Rows.fnExactFirstDifferenceRow.ifacesOut == Tryz.f6.resultTypes.toList.any (Tryz.prog.ifacesRec ·)) = true := by kernel_rfl
theorem jf21 : (Rows.fnExactFirstDifferenceRow.loopsOut == Tryz.f6.resultTypes.toList.any (Tryz.prog.loopsFrom ·)) = true := by kernel_rfl
theorem jf22 : (Rows.fnExactFirstDifferenceRow.plainKeys == Tryz.prog.plainKeys) = true := by kernel_rfl
theorem jf23 : (Rows.fnExactFirstDifferenceRow.shortTexts.isNone) = true := by kernel_rfl
theorem jf24 : (Tryz.prog.stopsHeard) = true := jz24
theorem jf25 : (Tryz.prog.mayEnter) = true := jz25
theorem jf26 : (Rows.fnExactFirstDifferenceRow.lifted == Tryz.prog.liftsFinal) = true := jz26
theorem jf27 : (Tryz.prog.make == some Rows.fnExactFirstDifferenceRow.make) = true := jz27
theorem jf29 : (Rows.fnExactFirstDifferenceRow.pinned == Rows.fnExactFirstDifferenceRow.pinnedBy) = true := by kernel_rfl
theorem jf30 : (Rows.fnExactFirstDifferenceRow.veiled == (Tryz.f6.params.toList ++ Rows.fnExactFirstDifferenceSpec.plain.varTypes Tryz.prog ++ Tryz.f6.resultTypes.toList).any (Tryz.prog.veiledRec ·)) = true := by kernel_rfl
theorem jf31 : (Rows.fnExactFirstDifferenceRow.veiledFits Tryz.prog Tryz.f6.params.toList (Tryz.f6.params.toList ++ Rows.fnExactFirstDifferenceSpec.plain.varTypes Tryz.prog ++ Tryz.f6.resultTypes.toList)) = true := by kernel_rfl
theorem joined : joinedFacts Tryz.prog 6 Tryz.f6 Rows.fnExactFirstDifferenceSpec Rows.fnExactFirstDifferenceRow = true := joined_of jf0 jf1 jf2 jf3 jf4 jf5 jf6 jf7 jf8 jf9 jf10 jf11 jf12 jf13 jf14 jf15 jf16 jf17 jf18 jf19 jf20 jf21 jf22 jf23 jf24 jf25 jf26 jf27 (by kernel_rfl) jf29 jf30 jf31
end Go.Proofs.YtmlnpimlfbfkbaaGreat
