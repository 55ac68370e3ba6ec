/- The closed facts of the row FnKnownAll, one theorem each. -/
import Derived.Test.YtfgalmgldidcmaaGreatJ0
namespace Go.Proofs.YtfgalmgldidcmaaGreat
open Go
theorem jf0 : (Rows.fnKnownAllRow.wf (OpenSpec.ofChange Rows.fnKnownAllSpec)) = true := by kernel_rfl
theorem jf1 : (laidOutB Tryz.prog) = true := jz1
theorem jf2 : (mapsRowed Tryz.prog) = true := jz2
theorem jf3 : (Tryz.f3.params.all (Tryz.prog.readableRec ·)) = true := by kernel_rfl
theorem jf4 : (namedTie Tryz.prog Rows.fnKnownAllRow.named Rows.fnKnownAllSpec.vars) = true := by kernel_rfl
theorem jf5 : (Rows.fnKnownAllRow.stops == []) = true := by kernel_rfl
theorem jf6 : (Tryz.prog.stops == []) = true := by kernel_rfl
theorem jf7 : (Rows.fnKnownAllRow.knobs == []) = true := by kernel_rfl
theorem jf8 : (Tryz.prog.stopKnobs == []) = true := by kernel_rfl
theorem jf9 : (Rows.fnKnownAllRow.inPlace == Tryz.prog.inPlace 3) = true := by kernel_rfl
theorem jf10 : (Rows.fnKnownAllRow.unfollowed == Tryz.prog.unfollowed 3) = true := by kernel_rfl
theorem jf11 : (Rows.fnKnownAllRow.recurses == Tryz.prog.recurses 3) = true := by kernel_rfl
theorem jf12 : (Rows.fnKnownAllRow.named == Tryz.prog.varsNamed 3) = true := by kernel_rfl
theorem jf13 : (Rows.fnKnownAllRow.maps == (Tryz.f3.params.toList ++ Rows.fnKnownAllSpec.plain.varTypes Tryz.prog).any (Tryz.prog.mapsRec ·)) = true := by kernel_rfl
theorem jf14 : (Rows.fnKnownAllRow.ifaces == (Tryz.f3.params.toList ++ Rows.fnKnownAllSpec.plain.varTypes Tryz.prog).any (Tryz.prog.ifacesRec ·)) = true := by kernel_rfl
theorem jf15 : (Rows.fnKnownAllRow.mapsOut == Tryz.prog.mapsAmong Tryz.f3.resultTypes.toList) = true := by kernel_rfl
theorem jf16 : (Rows.fnKnownAllRow.loops == (Tryz.f3.params.toList ++ Rows.fnKnownAllSpec.plain.varTypes Tryz.prog).any (Tryz.prog.loopsFrom ·)) = true := by kernel_rfl
theorem jf17 : (Rows.fnKnownAllRow.wideKeys == (Tryz.f3.params.toList ++ Rows.fnKnownAllSpec.plain.varTypes Tryz.prog ++ Tryz.f3.resultTypes.toList).any (Tryz.prog.wideKeysFrom ·)) = true := by kernel_rfl
theorem jf18 : (Rows.fnKnownAllSpec.vars.all (Tryz.prog.varReadable ·)) = true := by kernel_rfl
theorem jf19 : (Tryz.f3.resultTypes.all (fun t => Tryz.prog.readableRec t && decide (t < Tryz.prog.types.size))) = true := by kernel_rfl
theorem jf20 : (Rows.fnKnownAllRow.ifacesOut == Tryz.f3.resultTypes.toList.any (Tryz.prog.ifacesRec ·)) = true := by kernel_rfl
theorem jf21 : (Rows.fnKnownAllRow.loopsOut == Tryz.f3.resultTypes.toList.any (Tryz.prog.loopsFrom ·)) = true := by kernel_rfl
theorem jf22 : (Rows.fnKnownAllRow.plainKeys == Tryz.prog.plainKeys) = true := by kernel_rfl
theorem jf23 : (Rows.fnKnownAllRow.shortTexts.isNone) = true := by kernel_rfl
theorem jf24 : (Tryz.prog.stopsHeard) = true := jz24
theorem jf25 : (Tryz.prog.mayEnter) = true := jz25
theorem jf26 : (Rows.fnKnownAllRow.lifted == Tryz.prog.liftsFinal) = true := jz26
theorem jf27 : (Tryz.prog.make == some Rows.fnKnownAllRow.make) = true := jz27
theorem jf29 : (Rows.fnKnownAllRow.pinned == Rows.fnKnownAllRow.pinnedBy) = true := by kernel_rfl
theorem jf30 : (Rows.fnKnownAllRow.veiled == (Tryz.f3.params.toList ++ Rows.fnKnownAllSpec.plain.varTypes Tryz.prog ++ Tryz.f3.resultTypes.toList).any (Tryz.prog.veiledRec ·)) = true := by kernel_rfl
theorem jf31 : (Rows.fnKnownAllRow.veiledFits Tryz.prog Tryz.f3.params.toList (Tryz.f3.params.toList ++ Rows.fnKnownAllSpec.plain.varTypes Tryz.prog ++ Tryz.f3.resultTypes.toList)) = true := by kernel_rfl
theorem joined : joinedFacts Tryz.prog 3 Tryz.f3 Rows.fnKnownAllSpec Rows.fnKnownAllRow = true := joined_of jf0 jf1 jf2 jf3 jf4 jf5 jf6 jf7 jf8 jf9 jf10 jf11 jf12 jf13 jf14 jf15 jf16 jf17 jf18 jf19 jf20 jf21 jf22 jf23 jf24 jf25 jf26 jf27 (by kernel_rfl) jf29 jf30 jf31
end Go.Proofs.YtfgalmgldidcmaaGreat
