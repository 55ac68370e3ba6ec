/- The closed facts of the row FnExactThingText, one theorem each. -/
import Derived.Test.YtnhfakijgbkadaaDoorJ0
namespace Go.Proofs.YtnhfakijgbkadaaDoor
open Go
theorem jf0 : (Rows.fnExactThingTextRow.wf (OpenSpec.ofChange Rows.fnExactThingTextSpec)) = true := by kernel_rfl
theorem jf1 : (laidOutB Tryd.prog) = true := jz1
theorem jf2 : (mapsRowed Tryd.prog) = true := jz2
theorem jf3 : (Tryd.f7.params.all (Tryd.prog.readableRec ·)) = true := by kernel_rfl
theorem jf4 : (namedTie Tryd.prog Rows.fnExactThingTextRow.named Rows.fnExactThingTextSpec.vars) = true := by kernel_rfl
theorem jf5 : (Rows.fnExactThingTextRow.stops == []) = true := by kernel_rfl
theorem jf6 : (Tryd.prog.stops == []) = true := by kernel_rfl
theorem jf7 : (Rows.fnExactThingTextRow.knobs == []) = true := by kernel_rfl
theorem jf8 : (Tryd.prog.stopKnobs == []) = true := by kernel_rfl
theorem jf9 : (Rows.fnExactThingTextRow.inPlace == Tryd.prog.inPlace 7) = true := by kernel_rfl
theorem jf10 : (Rows.fnExactThingTextRow.unfollowed == Tryd.prog.unfollowed 7) = true := by kernel_rfl
theorem jf11 : (Rows.fnExactThingTextRow.recurses == Tryd.prog.recurses 7) = true := by kernel_rfl
theorem jf12 : (Rows.fnExactThingTextRow.named == Tryd.prog.varsNamed 7) = true := by kernel_rfl
theorem jf13 : (Rows.fnExactThingTextRow.maps == (Tryd.f7.params.toList ++ Rows.fnExactThingTextSpec.plain.varTypes Tryd.prog).any (Tryd.prog.mapsRec ·)) = true := by kernel_rfl
theorem jf14 : (Rows.fnExactThingTextRow.ifaces == (Tryd.f7.params.toList ++ Rows.fnExactThingTextSpec.plain.varTypes Tryd.prog).any (Tryd.prog.ifacesRec ·)) = true := by kernel_rfl
theorem jf15 : (Rows.fnExactThingTextRow.mapsOut == Tryd.prog.mapsAmong Tryd.f7.resultTypes.toList) = true := by kernel_rfl
theorem jf16 : (Rows.fnExactThingTextRow.loops == (Tryd.f7.params.toList ++ Rows.fnExactThingTextSpec.plain.varTypes Tryd.prog).any (Tryd.prog.loopsFrom ·)) = true := by kernel_rfl
theorem jf17 : (Rows.fnExactThingTextRow.wideKeys == (Tryd.f7.params.toList ++ Rows.fnExactThingTextSpec.plain.varTypes Tryd.prog ++ Tryd.f7.resultTypes.toList).any (Tryd.prog.wideKeysFrom ·)) = true := by kernel_rfl
theorem jf18 : (Rows.fnExactThingTextSpec.vars.all (Tryd.prog.varReadable ·)) = true := by kernel_rfl
theorem jf19 : (Tryd.f7.resultTypes.all (fun t => Tryd.prog.readableRec t && decide (t < Tryd.prog.types.size))) = true := by kernel_rfl
theorem jf20 : (Rows.fnExactThingTextRow.ifacesOut == Tryd.f7.resultTypes.toList.any (Tryd.prog.ifacesRec ·)) = true := by kernel_rfl
theorem jf21 : (Rows.fnExactThingTextRow.loopsOut == Tryd.f7.resultTypes.toList.any (Tryd.prog.loopsFrom ·)) = true := by kernel_rfl
theorem jf22 : (Rows.fnExactThingTextRow.plainKeys == Tryd.prog.plainKeys) = true := by kernel_rfl
theorem jf23 : (Rows.fnExactThingTextRow.shortTexts.isNone) = true := by kernel_rfl
theorem jf24 : (Tryd.prog.stopsHeard) = true := jz24
theorem jf25 : (Tryd.prog.mayEnter) = true := jz25
theorem jf26 : (Rows.fnExactThingTextRow.lifted == Tryd.prog.liftsFinal) = true := jz26
theorem jf27 : (Tryd.prog.make == some Rows.fnExactThingTextRow.make) = true := jz27
theorem jf29 : (Rows.fnExactThingTextRow.pinned == Rows.fnExactThingTextRow.pinnedBy) = true := by kernel_rfl
theorem jf30 : (Rows.fnExactThingTextRow.veiled == (Tryd.f7.params.toList ++ Rows.fnExactThingTextSpec.plain.varTypes Tryd.prog ++ Tryd.f7.resultTypes.toList).any (Tryd.prog.veiledRec ·)) = true := by kernel_rfl
theorem jf31 : (Rows.fnExactThingTextRow.veiledFits Tryd.prog Tryd.f7.params.toList (Tryd.f7.params.toList ++ Rows.fnExactThingTextSpec.plain.varTypes Tryd.prog ++ Tryd.f7.resultTypes.toList)) = true := by kernel_rfl
theorem joined : joinedFacts Tryd.prog 7 Tryd.f7 Rows.fnExactThingTextSpec Rows.fnExactThingTextRow = true := joined_of jf0 jf1 jf2 jf3 jf4 jf5 jf6 jf7 jf8 jf9 jf10 jf11 jf12 jf13 jf14 jf15 jf16 jf17 jf18 jf19 jf20 jf21 jf22 jf23 jf24 jf25 jf26 jf27 (by kernel_rfl) jf29 jf30 jf31
end Go.Proofs.YtnhfakijgbkadaaDoor
