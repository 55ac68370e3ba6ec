/- The closed facts of the row FnRoleCycle, one theorem each. -/
import Derived.Test.YtpoahajgaaoghaaJ0
namespace Go.Proofs.Ytpoahajgaaoghaa
open Go
theorem jf0 : (Rows.fnRoleCycleRow.wf (OpenSpec.ofChange Rows.fnRoleCycleSpec)) = true := by kernel_rfl
theorem jf1 : (laidOutB Try.prog) = true := jz1
theorem jf2 : (mapsRowed Try.prog) = true := jz2
theorem jf3 : (Try.f5.params.all (Try.prog.readableRec ·)) = true := by kernel_rfl
theorem jf4 : (namedTie Try.prog Rows.fnRoleCycleRow.named Rows.fnRoleCycleSpec.vars) = true := by kernel_rfl
theorem jf5 : (Rows.fnRoleCycleRow.stops == []) = true := by kernel_rfl
theorem jf6 : (Try.prog.stops == []) = true := by kernel_rfl
theorem jf7 : (Rows.fnRoleCycleRow.knobs == []) = true := by kernel_rfl
theorem jf8 : (Try.prog.stopKnobs == []) = true := by kernel_rfl
theorem jf9 : (Rows.fnRoleCycleRow.inPlace == Try.prog.inPlace 5) = true := by kernel_rfl
theorem jf10 : (Rows.fnRoleCycleRow.unfollowed == Try.prog.unfollowed 5) = true := by kernel_rfl
theorem jf11 : (Rows.fnRoleCycleRow.recurses == Try.prog.recurses 5) = true := by kernel_rfl
theorem jf12 : (Rows.fnRoleCycleRow.named == Try.prog.varsNamed 5) = true := by kernel_rfl
theorem jf13 : (Rows.fnRoleCycleRow.maps == (Try.f5.params.toList ++ Rows.fnRoleCycleSpec.plain.varTypes Try.prog).any (Try.prog.mapsRec ·)) = true := by kernel_rfl
theorem jf14 : (Rows.fnRoleCycleRow.ifaces == (Try.f5.params.toList ++ Rows.fnRoleCycleSpec.plain.varTypes Try.prog).any (Try.prog.ifacesRec ·)) = true := by kernel_rfl
theorem jf15 : (Rows.fnRoleCycleRow.mapsOut == Try.prog.mapsAmong Try.f5.resultTypes.toList) = true := by kernel_rfl
theorem jf16 : (Rows.fnRoleCycleRow.loops == (Try.f5.params.toList ++ Rows.fnRoleCycleSpec.plain.varTypes Try.prog).any (Try.prog.loopsFrom ·)) = true := by kernel_rfl
theorem jf17 : (Rows.fnRoleCycleRow.wideKeys == (Try.f5.params.toList ++ Rows.fnRoleCycleSpec.plain.varTypes Try.prog ++ Try.f5.resultTypes.toList).any (Try.prog.wideKeysFrom ·)) = true := by kernel_rfl
theorem jf18 : (Rows.fnRoleCycleSpec.vars.all (Try.prog.varReadable ·)) = true := by kernel_rfl
theorem jf19 : (Try.f5.resultTypes.all (fun t => Try.prog.readableRec t && decide (t < Try.prog.types.size))) = true := by kernel_rfl
theorem jf20 : (Rows.fnRoleCycleRow.ifacesOut == Try.f5.resultTypes.toList.any (Try.prog.ifacesRec ·)) = true := by kernel_rfl
theorem jf21 : (Rows.fnRoleCycleRow.loopsOut == Try.f5.resultTypes.toList.any (Try.prog.loopsFrom ·)) = true := by kernel_rfl
theorem jf22 : (Rows.fnRoleCycleRow.plainKeys == Try.prog.plainKeys) = true := by kernel_rfl
theorem jf23 : (Rows.fnRoleCycleRow.shortTexts.isNone) = true := by kernel_rfl
theorem jf24 : (Try.prog.stopsHeard) = true := jz24
theorem jf25 : (Try.prog.mayEnter) = true := jz25
theorem jf26 : (Rows.fnRoleCycleRow.lifted == Try.prog.liftsFinal) = true := jz26
theorem jf27 : (Try.prog.make == some Rows.fnRoleCycleRow.make) = true := jz27
theorem jf29 : (Rows.fnRoleCycleRow.pinned == Rows.fnRoleCycleRow.pinnedBy) = true := by kernel_rfl
theorem jf30 : (Rows.fnRoleCycleRow.veiled == (Try.f5.params.toList ++ Rows.fnRoleCycleSpec.plain.varTypes Try.prog ++ Try.f5.resultTypes.toList).any (Try.prog.veiledRec ·)) = true := by kernel_rfl
theorem jf31 : (Rows.fnRoleCycleRow.veiledFits Try.prog Try.f5.params.toList (Try.f5.params.toList ++ Rows.fnRoleCycleSpec.plain.varTypes Try.prog ++ Try.f5.resultTypes.toList)) = true := by kernel_rfl
theorem joined : joinedFacts Try.prog 5 Try.f5 Rows.fnRoleCycleSpec Rows.fnRoleCycleRow = true := joined_of jf0 jf1 jf2 jf3 jf4 jf5 jf6 jf7 jf8 jf9 jf10 jf11 jf12 jf13 jf14 jf15 jf16 jf17 jf18 jf19 jf20 jf21 jf22 jf23 jf24 jf25 jf26 jf27 (by kernel_rfl) jf29 jf30 jf31
end Go.Proofs.Ytpoahajgaaoghaa
