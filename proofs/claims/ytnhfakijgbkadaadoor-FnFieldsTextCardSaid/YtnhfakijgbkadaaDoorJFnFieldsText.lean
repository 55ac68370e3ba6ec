/- The closed facts of the row FnFieldsText, one theorem each. -/
import Derived.Test.YtnhfakijgbkadaaDoorJ0
namespace Go.Proofs.YtnhfakijgbkadaaDoor
open Go
theorem jf0 : (Rows.fnFieldsTextRow.wf (OpenSpec.ofChange Rows.fnFieldsTextSpec)) = true := by kernel_rfl
theorem jf1 : (laidOutB Tryd.prog) = true := jz1
theorem jf2 : (mapsRowed Tryd.prog) = true := jz2
theorem jf3 : (Tryd.f4.params.all (Tryd.prog.readableRec ·)) = true := by kernel_rfl
theorem jf4 : (namedTie Tryd.prog Rows.fnFieldsTextRow.named Rows.fnFieldsTextSpec.vars) = true := by kernel_rfl
theorem jf5 : (Rows.fnFieldsTextRow.stops == []) = true := by kernel_rfl
theorem jf6 : (Tryd.prog.stops == []) = true := by kernel_rfl
theorem jf7 : (Rows.fnFieldsTextRow.knobs == []) = true := by kernel_rfl
theorem jf8 : (Tryd.prog.stopKnobs == []) = true := by kernel_rfl
theorem jf9 : (Rows.fnFieldsTextRow.inPlace == Tryd.prog.inPlace 4) = true := by kernel_rfl
theorem jf10 : (Rows.fnFieldsTextRow.unfollowed == Tryd.prog.unfollowed 4) = true := by kernel_rfl
theorem jf11 : (Rows.fnFieldsTextRow.recurses == Tryd.prog.recurses 4) = true := by kernel_rfl
theorem jf12 : (Rows.fnFieldsTextRow.named == Tryd.prog.varsNamed 4) = true := by kernel_rfl
theorem jf13 : (Rows.fnFieldsTextRow.maps == (Tryd.f4.params.toList ++ Rows.fnFieldsTextSpec.plain.varTypes Tryd.prog).any (Tryd.prog.mapsRec ·)) = true := by kernel_rfl
theorem jf14 : (Rows.fnFieldsTextRow.ifaces == (Tryd.f4.params.toList ++ Rows.fnFieldsTextSpec.plain.varTypes Tryd.prog).any (Tryd.prog.ifacesRec ·)) = true := by kernel_rfl
theorem jf15 : (Rows.fnFieldsTextRow.mapsOut == Tryd.prog.mapsAmong Tryd.f4.resultTypes.toList) = true := by kernel_rfl
theorem jf16 : (Rows.fnFieldsTextRow.loops == (Tryd.f4.params.toList ++ Rows.fnFieldsTextSpec.plain.varTypes Tryd.prog).any (Tryd.prog.loopsFrom ·)) = true := by kernel_rfl
theorem jf17 : (Rows.fnFieldsTextRow.wideKeys == (Tryd.f4.params.toList ++ Rows.fnFieldsTextSpec.plain.varTypes Tryd.prog ++ Tryd.f4.resultTypes.toList).any (Tryd.prog.wideKeysFrom ·)) = true := by kernel_rfl
theorem jf18 : (Rows.fnFieldsTextSpec.vars.all (Tryd.prog.varReadable ·)) = true := by kernel_rfl
theorem jf19 : (Tryd.f4.resultTypes.all (fun t => Tryd.prog.readableRec t && decide (t < Tryd.prog.types.size))) = true := by kernel_rfl
theorem jf20 : (Rows.fnFieldsTextRow.ifacesOut == Tryd.f4.resultTypes.toList.any (Tryd.prog.ifacesRec ·)) = true := by kernel_rfl
theorem jf21 : (Rows.fnFieldsTextRow.loopsOut == Tryd.f4.resultTypes.toList.any (Tryd.prog.loopsFrom ·)) = true := by kernel_rfl
theorem jf22 : (Rows.fnFieldsTextRow.plainKeys == Tryd.prog.plainKeys) = true := by kernel_rfl
theorem jf23 : (Rows.fnFieldsTextRow.shortTexts.isNone) = true := by kernel_rfl
theorem jf24 : (Tryd.prog.stopsHeard) = true := jz24
theorem jf25 : (Tryd.prog.mayEnter) = true := jz25
theorem jf26 : (Rows.fnFieldsTextRow.lifted == Tryd.prog.liftsFinal) = true := jz26
theorem jf27 : (Tryd.prog.make == some Rows.fnFieldsTextRow.make) = true := jz27
theorem jf29 : (Rows.fnFieldsTextRow.pinned == Rows.fnFieldsTextRow.pinnedBy) = true := by kernel_rfl
theorem jf30 : (Rows.fnFieldsTextRow.veiled == (Tryd.f4.params.toList ++ Rows.fnFieldsTextSpec.plain.varTypes Tryd.prog ++ Tryd.f4.resultTypes.toList).any (Tryd.prog.veiledRec ·)) = true := by kernel_rfl
theorem jf31 : (Rows.fnFieldsTextRow.veiledFits Tryd.prog Tryd.f4.params.toList (Tryd.f4.params.toList ++ Rows.fnFieldsTextSpec.plain.varTypes Tryd.prog ++ Tryd.f4.resultTypes.toList)) = true := by kernel_rfl
theorem joined : joinedFacts Tryd.prog 4 Tryd.f4 Rows.fnFieldsTextSpec Rows.fnFieldsTextRow = true := joined_of jf0 jf1 jf2 jf3 jf4 jf5 jf6 jf7 jf8 jf9 jf10 jf11 jf12 jf13 jf14 jf15 jf16 jf17 jf18 jf19 jf20 jf21 jf22 jf23 jf24 jf25 jf26 jf27 (by kernel_rfl) jf29 jf30 jf31
end Go.Proofs.YtnhfakijgbkadaaDoor
