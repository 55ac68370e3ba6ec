/- The closed facts of the row FnExactShadowed, one theorem each. -/
import Derived.Test.YtmlnpimlfbfkbaaGreatJ0
namespace Go.Proofs.YtmlnpimlfbfkbaaGreat
open Go
theorem jf0 : (Rows.fnExactShadowedRow.wf (OpenSpec.ofChange Rows.fnExactShadowedSpec)) = true := by kernel_rfl
theorem jf1 : (laidOutB Tryz.prog) = true := jz1
theorem jf2 : (mapsRowed Tryz.prog) = true := jz2
theorem jf3 : (Tryz.f7.params.all (Tryz.prog.readableRec ·)) = true := by kernel_rfl
theorem jf4 : (namedTie Tryz.prog Rows.fnExactShadowedRow.named Rows.fnExactShadowedSpec.vars) = true := by kernel_rfl
theorem jf5 : (Rows.fnExactShadowedRow.stops == []) = true := by kernel_rfl
theorem jf6 : (Tryz.prog.stops == []) = true := by kernel_rfl
theorem jf7 : (Rows.fnExactShadowedRow.knobs == []) = true := by kernel_rfl
theorem jf8 : (Tryz.prog.stopKnobs == []) = true := by kernel_rfl
theorem jf9 : (Rows.fnExactShadowedRow.inPlace == Tryz.prog.inPlace 7) = true := by kernel_rfl
theorem jf10 : (Rows.fnExactShadowedRow.unfollowed == Tryz.prog.unfollowed 7) = true := by kernel_rfl
theorem jf11 : (Rows.fnExactShadowedRow.recurses == Tryz.prog.recurses 7) = true := by kernel_rfl
theorem jf12 : (Rows.fnExactShadowedRow.named == Tryz.prog.varsNamed 7) = true := by kernel_rfl
theorem jf13 : (Rows.fnExactShadowedRow.maps == (Tryz.f7.params.toList ++ Rows.fnExactShadowedSpec.plain.varTypes Tryz.prog).any (Tryz.prog.mapsRec ·)) = true := by kernel_rfl
theorem jf14 : (Rows.fnExactShadowedRow.ifaces == (Tryz.f7.params.toList ++ Rows.fnExactShadowedSpec.plain.varTypes Tryz.prog).any (Tryz.prog.ifacesRec ·)) = true := by kernel_rfl
theorem jf15 : (Rows.fnExactShadowedRow.mapsOut == Tryz.prog.mapsAmong Tryz.f7.resultTypes.toList) = true := by kernel_rfl
theorem jf16 : (Rows.fnExactShadowedRow.loops == (Tryz.f7.params.toList ++ Rows.fnExactShadowedSpec.plain.varTypes Tryz.prog).any (Tryz.prog.loopsFrom ·)) = true := by kernel_rfl
theorem jf17 : (Rows.fnExactShadowedRow.wideKeys == (Tryz.f7.params.toList ++ Rows.fnExactShadowedSpec.plain.varTypes Tryz.prog ++ Tryz.f7.resultTypes.toList).any (Tryz.prog.wideKeysFrom ·)) = true := by kernel_rfl
theorem jf18 : (Rows.fnExactShadowedSpec.vars.all (Tryz.prog.varReadable ·)) = true := by kernel_rfl
theorem jf19 : (Tryz.f7.resultTypes.all (fun t => Tryz.prog.readableRec t && decide (t < Tryz.prog.types.size))) = true := by kernel_rfl
theorem jf20 : (Rows.fnExactShadowedRow.ifacesOut == Tryz.f7.resultTypes.toList.any (Tryz.prog.ifacesRec ·)) = true := by kernel_rfl
theorem jf21 : (Rows.fnExactShadowedRow.loopsOut == Tryz.f7.resultTypes.toList.any (Tryz.prog.loopsFrom ·)) = true := by kernel_rfl
theorem jf22 : (Rows.fnExactShadowedRow.plainKeys == Tryz.prog.plainKeys) = true := by kernel_rfl
theorem jf23 : (Rows.fnExactShadowedRow.shortTexts.isNone) = true := by kernel_rfl
theorem jf24 : (Tryz.prog.stopsHeard) = true := jz24
theorem jf25 : (Tryz.prog.mayEnter) = true := jz25
theorem jf26 : (Rows.fnExactShadowedRow.lifted == Tryz.prog.liftsFinal) = true := jz26
theorem jf27 : (Tryz.prog.make == some Rows.fnExactShadowedRow.make) = true := jz27
theorem jf29 : (Rows.fnExactShadowedRow.pinned == Rows.fnExactShadowedRow.pinnedBy) = true := by kernel_rfl
theorem jf30 : (Rows.fnExactShadowedRow.veiled == (Tryz.f7.params.toList ++ Rows.fnExactShadowedSpec.plain.varTypes Tryz.prog ++ Tryz.f7.resultTypes.toList).any (Tryz.prog.veiledRec ·)) = true := by kernel_rfl
theorem jf31 : (Rows.fnExactShadowedRow.veiledFits Tryz.prog Tryz.f7.params.toList (Tryz.f7.params.toList ++ Rows.fnExactShadowedSpec.plain.varTypes Tryz.prog ++ Tryz.f7.resultTypes.toList)) = true := by kernel_rfl
theorem joined : joinedFacts Tryz.prog 7 Tryz.f7 Rows.fnExactShadowedSpec Rows.fnExactShadowedRow = true := joined_of jf0 jf1 jf2 jf3 jf4 jf5 jf6 jf7 jf8 jf9 jf10 jf11 jf12 jf13 jf14 jf15 jf16 jf17 jf18 jf19 jf20 jf21 jf22 jf23 jf24 jf25 jf26 jf27 (by kernel_rfl) jf29 jf30 jf31
end Go.Proofs.YtmlnpimlfbfkbaaGreat
