/- The closed facts of the row FnExactFewerPolicies, one theorem each. -/
import Derived.Test.YtmlnpimlfbfkbaaGreatJ0
namespace Go.Proofs.YtmlnpimlfbfkbaaGreat
open Go
theorem jf0 : (Rows.fnExactFewerPoliciesRow.wf (OpenSpec.ofChange Rows.fnExactFewerPoliciesSpec)) = true := by kernel_rfl
theorem jf1 : (laidOutB Tryz.prog) = true := jz1
theorem jf2 : (mapsRowed Tryz.prog) = true := jz2
theorem jf3 : (Tryz.f9.params.all (Tryz.prog.readableRec ·)) = true := by kernel_rfl
theorem jf4 : (namedTie Tryz.prog Rows.fnExactFewerPoliciesRow.named Rows.fnExactFewerPoliciesSpec.vars) = true := by kernel_rfl
theorem jf5 : (Rows.fnExactFewerPoliciesRow.stops == []) = true := by kernel_rfl
theorem jf6 : (Tryz.prog.stops == []) = true := by kernel_rfl
theorem jf7 : (Rows.fnExactFewerPoliciesRow.knobs == []) = true := by kernel_rfl
theorem jf8 : (Tryz.prog.stopKnobs == []) = true := by kernel_rfl
theorem jf9 : (Rows.fnExactFewerPoliciesRow.inPlace == Tryz.prog.inPlace 9) = true := by kernel_rfl
theorem jf10 : (Rows.fnExactFewerPoliciesRow.unfollowed == Tryz.prog.unfollowed 9) = true := by kernel_rfl
theorem jf11 : (Rows.fnExactFewerPoliciesRow.recurses == Tryz.prog.recurses 9) = true := by kernel_rfl
theorem jf12 : (Rows.fnExactFewerPoliciesRow.named == Tryz.prog.varsNamed 9) = true := by kernel_rfl
theorem jf13 : (Rows.fnExactFewerPoliciesRow.maps == (Tryz.f9.params.toList ++ Rows.fnExactFewerPoliciesSpec.plain.varTypes Tryz.prog).any (Tryz.prog.mapsRec ·)) = true := by kernel_rfl
theorem jf14 : (Rows.fnExactFewerPoliciesRow.ifaces == (Tryz.f9.params.toList ++ Rows.fnExactFewerPoliciesSpec.plain.varTypes Tryz.prog).any (Tryz.prog.ifacesRec ·)) = true := by kernel_rfl
theorem jf15 : (Rows.fnExactFewerPoliciesRow.mapsOut == Tryz.prog.mapsAmong Tryz.f9.resultTypes.toList) = true := by kernel_rfl
theorem jf16 : (Rows.fnExactFewerPoliciesRow.loops == (Tryz.f9.params.toList ++ Rows.fnExactFewerPoliciesSpec.plain.varTypes Tryz.prog).any (Tryz.prog.loopsFrom ·)) = true := by kernel_rfl
theorem jf17 : (Rows.fnExactFewerPoliciesRow.wideKeys == (Tryz.f9.params.toList ++ Rows.fnExactFewerPoliciesSpec.plain.varTypes Tryz.prog ++ Tryz.f9.resultTypes.toList).any (Tryz.prog.wideKeysFrom ·)) = true := by kernel_rfl
theorem jf18 : (Rows.fnExactFewerPoliciesSpec.vars.all (Tryz.prog.varReadable ·)) = true := by kernel_rfl
theorem jf19 : (Tryz.f9.resultTypes.all (fun t => Tryz.prog.readableRec t && decide (t < Tryz.prog.types.size))) = true := by kernel_rfl
theorem jf20 : (Rows.fnExactFewerPoliciesRow.ifacesOut == Tryz.f9.resultTypes.toList.any (Tryz.prog.ifacesRec ·)) = true := by kernel_rfl
theorem jf21 : (Rows.fnExactFewerPoliciesRow.loopsOut == Tryz.f9.resultTypes.toList.any (Tryz.prog.loopsFrom ·)) = true := by kernel_rfl
theorem jf22 : (Rows.fnExactFewerPoliciesRow.plainKeys == Tryz.prog.plainKeys) = true := by kernel_rfl
theorem jf23 : (Rows.fnExactFewerPoliciesRow.shortTexts.isNone) = true := by kernel_rfl
theorem jf24 : (Tryz.prog.stopsHeard) = true := jz24
theorem jf25 : (Tryz.prog.mayEnter) = true := jz25
theorem jf26 : (Rows.fnExactFewerPoliciesRow.lifted == Tryz.prog.liftsFinal) = true := jz26
theorem jf27 : (Tryz.prog.make == some Rows.fnExactFewerPoliciesRow.make) = true := jz27
theorem jf29 : (Rows.fnExactFewerPoliciesRow.pinned == Rows.fnExactFewerPoliciesRow.pinnedBy) = true := by kernel_rfl
theorem jf30 : (Rows.fnExactFewerPoliciesRow.veiled == (Tryz.f9.params.toList ++ Rows.fnExactFewerPoliciesSpec.plain.varTypes Tryz.prog ++ Tryz.f9.resultTypes.toList).any (Tryz.prog.veiledRec ·)) = true := by kernel_rfl
theorem jf31 : (Rows.fnExactFewerPoliciesRow.veiledFits Tryz.prog Tryz.f9.params.toList (Tryz.f9.params.toList ++ Rows.fnExactFewerPoliciesSpec.plain.varTypes Tryz.prog ++ Tryz.f9.resultTypes.toList)) = true := by kernel_rfl
theorem joined : joinedFacts Tryz.prog 9 Tryz.f9 Rows.fnExactFewerPoliciesSpec Rows.fnExactFewerPoliciesRow = true := joined_of jf0 jf1 jf2 jf3 jf4 jf5 jf6 jf7 jf8 jf9 jf10 jf11 jf12 jf13 jf14 jf15 jf16 jf17 jf18 jf19 jf20 jf21 jf22 jf23 jf24 jf25 jf26 jf27 (by kernel_rfl) jf29 jf30 jf31
end Go.Proofs.YtmlnpimlfbfkbaaGreat
