/- The closed facts of the row FnFewerPolicies, one theorem each. -/
import Derived.Test.YtfdjfiabdgmlhaaJ0
namespace Go.Proofs.Ytfdjfiabdgmlhaa
open Go
theorem jf0 : (Rows.fnFewerPoliciesRow.wf (OpenSpec.ofChange Rows.fnFewerPoliciesSpec)) = true := by kernel_rfl
theorem jf1 : (laidOutB Try.prog) = true := jz1
theorem jf2 : (mapsRowed Try.prog) = true := jz2
theorem jf3 : (Try.f15.params.all (Try.prog.readableRec ·)) = true := by kernel_rfl
theorem jf4 : (namedTie Try.prog Rows.fnFewerPoliciesRow.named Rows.fnFewerPoliciesSpec.vars) = true := by kernel_rfl
theorem jf5 : (Rows.fnFewerPoliciesRow.stops == []) = true := by kernel_rfl
theorem jf6 : (Try.prog.stops == []) = true := by kernel_rfl
theorem jf7 : (Rows.fnFewerPoliciesRow.knobs == []) = true := by kernel_rfl
theorem jf8 : (Try.prog.stopKnobs == []) = true := by kernel_rfl
theorem jf9 : (Rows.fnFewerPoliciesRow.inPlace == Try.prog.inPlace 15) = true := by kernel_rfl
theorem jf10 : (Rows.fnFewerPoliciesRow.unfollowed == Try.prog.unfollowed 15) = true := by kernel_rfl
theorem jf11 : (Rows.fnFewerPoliciesRow.recurses == Try.prog.recurses 15) = true := by kernel_rfl
theorem jf12 : (Rows.fnFewerPoliciesRow.named == Try.prog.varsNamed 15) = true := by kernel_rfl
theorem jf13 : (Rows.fnFewerPoliciesRow.maps == (Try.f15.params.toList ++ Rows.fnFewerPoliciesSpec.plain.varTypes Try.prog).any (Try.prog.mapsRec ·)) = true := by kernel_rfl
theorem jf14 : (Rows.fnFewerPoliciesRow.ifaces == (Try.f15.params.toList ++ Rows.fnFewerPoliciesSpec.plain.varTypes Try.prog).any (Try.prog.ifacesRec ·)) = true := by kernel_rfl
theorem jf15 : (Rows.fnFewerPoliciesRow.mapsOut == Try.prog.mapsAmong Try.f15.resultTypes.toList) = true := by kernel_rfl
theorem jf16 : (Rows.fnFewerPoliciesRow.loops == (Try.f15.params.toList ++ Rows.fnFewerPoliciesSpec.plain.varTypes Try.prog).any (Try.prog.loopsFrom ·)) = true := by kernel_rfl
theorem jf17 : (Rows.fnFewerPoliciesRow.wideKeys == (Try.f15.params.toList ++ Rows.fnFewerPoliciesSpec.plain.varTypes Try.prog ++ Try.f15.resultTypes.toList).any (Try.prog.wideKeysFrom ·)) = true := by kernel_rfl
theorem jf18 : (Rows.fnFewerPoliciesSpec.vars.all (Try.prog.varReadable ·)) = true := by kernel_rfl
theorem jf19 : (Try.f15.resultTypes.all (fun t => Try.prog.readableRec t && decide (t < Try.prog.types.size))) = true := by kernel_rfl
theorem jf20 : (Rows.fnFewerPoliciesRow.ifacesOut == Try.f15.resultTypes.toList.any (Try.prog.ifacesRec ·)) = true := by kernel_rfl
theorem jf21 : (Rows.fnFewerPoliciesRow.loopsOut == Try.f15.resultTypes.toList.any (Try.prog.loopsFrom ·)) = true := by kernel_rfl
theorem jf22 : (Rows.fnFewerPoliciesRow.plainKeys == Try.prog.plainKeys) = true := by kernel_rfl
theorem jf23 : (Rows.fnFewerPoliciesRow.shortTexts.isNone) = true := by kernel_rfl
theorem jf24 : (Try.prog.stopsHeard) = true := jz24
theorem jf25 : (Try.prog.mayEnter) = true := jz25
theorem jf26 : (Rows.fnFewerPoliciesRow.lifted == Try.prog.liftsFinal) = true := jz26
theorem jf27 : (Try.prog.make == some Rows.fnFewerPoliciesRow.make) = true := jz27
theorem jf29 : (Rows.fnFewerPoliciesRow.pinned == Rows.fnFewerPoliciesRow.pinnedBy) = true := by kernel_rfl
theorem jf30 : (Rows.fnFewerPoliciesRow.veiled == (Try.f15.params.toList ++ Rows.fnFewerPoliciesSpec.plain.varTypes Try.prog ++ Try.f15.resultTypes.toList).any (Try.prog.veiledRec ·)) = true := by kernel_rfl
theorem jf31 : (Rows.fnFewerPoliciesRow.veiledFits Try.prog Try.f15.params.toList (Try.f15.params.toList ++ Rows.fnFewerPoliciesSpec.plain.varTypes Try.prog ++ Try.f15.resultTypes.toList)) = true := by kernel_rfl
theorem joined : joinedFacts Try.prog 15 Try.f15 Rows.fnFewerPoliciesSpec Rows.fnFewerPoliciesRow = true := joined_of jf0 jf1 jf2 jf3 jf4 jf5 jf6 jf7 jf8 jf9 jf10 jf11 jf12 jf13 jf14 jf15 jf16 jf17 jf18 jf19 jf20 jf21 jf22 jf23 jf24 jf25 jf26 jf27 (by kernel_rfl) jf29 jf30 jf31
end Go.Proofs.Ytfdjfiabdgmlhaa
