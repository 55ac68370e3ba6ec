/- The closed facts of the row FnReadFields, one theorem each. -/
import Derived.Test.YtnhfakijgbkadaaDoorJ0
namespace Go.Proofs.YtnhfakijgbkadaaDoor
open Go
theorem jf0 : (Rows.fnReadFieldsRow.wf (OpenSpec.ofChange Rows.fnReadFieldsSpec)) = true := by kernel_rfl
theorem jf1 : (laidOutB Tryd.prog) = true := jz1
theorem jf2 : (mapsRowed Tryd.prog) = true := jz2
theorem jf3 : (Tryd.f5.params.all (Tryd.prog.readableRec ·)) = true := by kernel_rfl
theorem jf4 : (namedTie Tryd.prog Rows.fnReadFieldsRow.named Rows.fnReadFieldsSpec.vars) = true := by kernel_rfl
theorem jf5 : (Rows.fnReadFieldsRow.stops == []) = true := by kernel_rfl
theorem jf6 : (Tryd.prog.stops == []) = true := by kernel_rfl
theorem jf7 : (Rows.fnReadFieldsRow.knobs == []) = true := by kernel_rfl
theorem jf8 : (Tryd.prog.stopKnobs == []) = true := by kernel_rfl
theorem jf9 : (Rows.fnReadFieldsRow.inPlace == Tryd.prog.inPlace 5) = true := by kernel_rfl
theorem jf10 : (Rows.fnReadFieldsRow.unfollowed == Tryd.prog.unfollowed 5) = true := by kernel_rfl
theorem jf11 : (Rows.fnReadFieldsRow.recurses == Tryd.prog.recurses 5) = true := by kernel_rfl
theorem jf12 : (Rows.fnReadFieldsRow.named == Tryd.prog.varsNamed 5) = true := by kernel_rfl
theorem jf13 : (Rows.fnReadFieldsRow.maps == (Tryd.f5.params.toList ++ Rows.fnReadFieldsSpec.plain.varTypes Tryd.prog).any (Tryd.prog.mapsRec ·)) = true := by kernel_rfl
theorem jf14 : (Rows.fnReadFieldsRow.ifaces == (Tryd.f5.params.toList ++ Rows.fnReadFieldsSpec.plain.varTypes Tryd.prog).any (Tryd.prog.ifacesRec ·)) = true := by kernel_rfl
theorem jf15 : (Rows.fnReadFieldsRow.mapsOut == Tryd.prog.mapsAmong Tryd.f5.resultTypes.toList) = true := by kernel_rfl
theorem jf16 : (Rows.fnReadFieldsRow.loops == (Tryd.f5.params.toList ++ Rows.fnReadFieldsSpec.plain.varTypes Tryd.prog).any (Tryd.prog.loopsFrom ·)) = true := by kernel_rfl
theorem jf17 : (Rows.fnReadFieldsRow.wideKeys == (Tryd.f5.params.toList ++ Rows.fnReadFieldsSpec.plain.varTypes Tryd.prog ++ Tryd.f5.resultTypes.toList).any (Tryd.prog.wideKeysFrom ·)) = true := by kernel_rfl
theorem jf18 : (Rows.fnReadFieldsSpec.vars.all (Tryd.prog.varReadable ·)) = true := by kernel_rfl
theorem jf19 : (Tryd.f5.resultTypes.all (fun t => Tryd.prog.readableRec t && decide (t < Tryd.prog.types.size))) = true := by kernel_rfl
theorem jf20 : (Rows.fnReadFieldsRow.ifacesOut == Tryd.f5.resultTypes.toList.any (Tryd.prog.ifacesRec ·)) = true := by kernel_rfl
theorem jf21 : (Rows.fnReadFieldsRow.loopsOut == Tryd.f5.resultTypes.toList.any (Tryd.prog.loopsFrom ·)) = true := by kernel_rfl
theorem jf22 : (Rows.fnReadFieldsRow.plainKeys == Tryd.prog.plainKeys) = true := by kernel_rfl
theorem jf23 : (Rows.fnReadFieldsRow.shortTexts.isNone) = true := by kernel_rfl
theorem jf24 : (Tryd.prog.stopsHeard) = true := jz24
theorem jf25 : (Tryd.prog.mayEnter) = true := jz25
theorem jf26 : (Rows.fnReadFieldsRow.lifted == Tryd.prog.liftsFinal) = true := jz26
theorem jf27 : (Tryd.prog.make == some Rows.fnReadFieldsRow.make) = true := jz27
theorem jf29 : (Rows.fnReadFieldsRow.pinned == Rows.fnReadFieldsRow.pinnedBy) = true := by kernel_rfl
theorem jf30 : (Rows.fnReadFieldsRow.veiled == (Tryd.f5.params.toList ++ Rows.fnReadFieldsSpec.plain.varTypes Tryd.prog ++ Tryd.f5.resultTypes.toList).any (Tryd.prog.veiledRec ·)) = true := by kernel_rfl
theorem jf31 : (Rows.fnReadFieldsRow.veiledFits Tryd.prog Tryd.f5.params.toList (Tryd.f5.params.toList ++ Rows.fnReadFieldsSpec.plain.varTypes Tryd.prog ++ Tryd.f5.resultTypes.toList)) = true := by kernel_rfl
theorem joined : joinedFacts Tryd.prog 5 Tryd.f5 Rows.fnReadFieldsSpec Rows.fnReadFieldsRow = true := joined_of jf0 jf1 jf2 jf3 jf4 jf5 jf6 jf7 jf8 jf9 jf10 jf11 jf12 jf13 jf14 jf15 jf16 jf17 jf18 jf19 jf20 jf21 jf22 jf23 jf24 jf25 jf26 jf27 (by kernel_rfl) jf29 jf30 jf31
end Go.Proofs.YtnhfakijgbkadaaDoor
