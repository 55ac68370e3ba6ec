/- The closed facts of the row FnExactReadFields, one theorem each. -/
import Derived.Test.YtnhfakijgbkadaaDoorJ0
namespace Go.Proofs.YtnhfakijgbkadaaDoor
open Go
theorem jf0 : (Rows.fnExactReadFieldsRow.wf (OpenSpec.ofChange Rows.fnExactReadFieldsSpec)) = true := by kernel_rfl
theorem jf1 : (laidOutB Tryd.prog) = true := jz1
theorem jf2 : (mapsRowed Tryd.prog) = true := jz2
theorem jf3 : (Tryd.f6.params.all (Tryd.prog.readableRec ·)) = true := by kernel_rfl
theorem jf4 : (namedTie Tryd.prog Rows.fnExactReadFieldsRow.named Rows.fnExactReadFieldsSpec.vars) = true := by kernel_rfl
theorem jf5 : (Rows.fnExactReadFieldsRow.stops == []) = true := by kernel_rfl
theorem jf6 : (Tryd.prog.stops == []) = true := by kernel_rfl
theorem jf7 : (Rows.fnExactReadFieldsRow.knobs == []) = true := by kernel_rfl
theorem jf8 : (Tryd.prog.stopKnobs == []) = true := by kernel_rfl
theorem jf9 : (Rows.fnExactReadFieldsRow.inPlace == Tryd.prog.inPlace 6) = true := by kernel_rfl
theorem jf10 : (Rows.fnExactReadFieldsRow.unfollowed == Tryd.prog.unfollowed 6) = true := by kernel_rfl
theorem jf11 : (Rows.fnExactReadFieldsRow.recurses == Tryd.prog.recurses 6) = true := by kernel_rfl
theorem jf12 : (Rows.fnExactReadFieldsRow.named == Tryd.prog.varsNamed 6) = true := by kernel_rfl
theorem jf13 : (Rows.fnExactReadFieldsRow.maps == (Tryd.f6.params.toList ++ Rows.fnExactReadFieldsSpec.plain.varTypes Tryd.prog).any (Tryd.prog.mapsRec ·)) = true := by kernel_rfl
theorem jf14 : (Rows.fnExactReadFieldsRow.ifaces == (Tryd.f6.params.toList ++ Rows.fnExactReadFieldsSpec.plain.varTypes Tryd.prog).any (Tryd.prog.ifacesRec ·)) = true := by kernel_rfl
theorem jf15 : (Rows.fnExactReadFieldsRow.mapsOut == Tryd.prog.mapsAmong Tryd.f6.resultTypes.toList) = true := by kernel_rfl
theorem jf16 : (Rows.fnExactReadFieldsRow.loops == (Tryd.f6.params.toList ++ Rows.fnExactReadFieldsSpec.plain.varTypes Tryd.prog).any (Tryd.prog.loopsFrom ·)) = true := by kernel_rfl
theorem jf17 : (Rows.fnExactReadFieldsRow.wideKeys == (Tryd.f6.params.toList ++ Rows.fnExactReadFieldsSpec.plain.varTypes Tryd.prog ++ Tryd.f6.resultTypes.toList).any (Tryd.prog.wideKeysFrom ·)) = true := by kernel_rfl
theorem jf18 : (Rows.fnExactReadFieldsSpec.vars.all (Tryd.prog.varReadable ·)) = true := by kernel_rfl
theorem jf19 : (Tryd.f6.resultTypes.all (fun t => Tryd.prog.readableRec t && decide (t < Tryd.prog.types.size))) = true := by kernel_rfl
theorem jf20 : (Rows.fnExactReadFieldsRow.ifacesOut == Tryd.f6.resultTypes.toList.any (Tryd.prog.ifacesRec ·)) = true := by kernel_rfl
theorem jf21 : (Rows.fnExactReadFieldsRow.loopsOut == Tryd.f6.resultTypes.toList.any (Tryd.prog.loopsFrom ·)) = true := by kernel_rfl
theorem jf22 : (Rows.fnExactReadFieldsRow.plainKeys == Tryd.prog.plainKeys) = true := by kernel_rfl
theorem jf23 : (Rows.fnExactReadFieldsRow.shortTexts.isNone) = true := by kernel_rfl
theorem jf24 : (Tryd.prog.stopsHeard) = true := jz24
theorem jf25 : (Tryd.prog.mayEnter) = true := jz25
theorem jf26 : (Rows.fnExactReadFieldsRow.lifted == Tryd.prog.liftsFinal) = true := jz26
theorem jf27 : (Tryd.prog.make == some Rows.fnExactReadFieldsRow.make) = true := jz27
theorem jf29 : (Rows.fnExactReadFieldsRow.pinned == Rows.fnExactReadFieldsRow.pinnedBy) = true := by kernel_rfl
theorem jf30 : (Rows.fnExactReadFieldsRow.veiled == (Tryd.f6.params.toList ++ Rows.fnExactReadFieldsSpec.plain.varTypes Tryd.prog ++ Tryd.f6.resultTypes.toList).any (Tryd.prog.veiledRec ·)) = true := by kernel_rfl
theorem jf31 : (Rows.fnExactReadFieldsRow.veiledFits Tryd.prog Tryd.f6.params.toList (Tryd.f6.params.toList ++ Rows.fnExactReadFieldsSpec.plain.varTypes Tryd.prog ++ Tryd.f6.resultTypes.toList)) = true := by kernel_rfl
theorem joined : joinedFacts Tryd.prog 6 Tryd.f6 Rows.fnExactReadFieldsSpec Rows.fnExactReadFieldsRow = true := joined_of jf0 jf1 jf2 jf3 jf4 jf5 jf6 jf7 jf8 jf9 jf10 jf11 jf12 jf13 jf14 jf15 jf16 jf17 jf18 jf19 jf20 jf21 jf22 jf23 jf24 jf25 jf26 jf27 (by kernel_rfl) jf29 jf30 jf31
end Go.Proofs.YtnhfakijgbkadaaDoor
