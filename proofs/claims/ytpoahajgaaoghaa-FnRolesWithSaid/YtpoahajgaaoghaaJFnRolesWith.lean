/- The closed facts of the row FnRolesWith, one theorem each. -/
import Derived.Test.YtpoahajgaaoghaaJ0
namespace Go.Proofs.Ytpoahajgaaoghaa
open Go
theorem jf0 : (Rows.fnRolesWithRow.wf (OpenSpec.ofChange Rows.fnRolesWithSpec)) = true := by kernel_rfl
theorem jf1 : (laidOutB Try.prog) = true := jz1
theorem jf2 : (mapsRowed Try.prog) = true := jz2
theorem jf3 : (Try.f7.params.all (Try.prog.readableRec ·)) = true := by kernel_rfl
theorem jf4 : (namedTie Try.prog Rows.fnRolesWithRow.named Rows.fnRolesWithSpec.vars) = true := by kernel_rfl
theorem jf5 : (Rows.fnRolesWithRow.stops == []) = true := by kernel_rfl
theorem jf6 : (Try.prog.stops == []) = true := by kernel_rfl
theorem jf7 : (Rows.fnRolesWithRow.knobs == []) = true := by kernel_rfl
theorem jf8 : (Try.prog.stopKnobs == []) = true := by kernel_rfl
theorem jf9 : (Rows.fnRolesWithRow.inPlace == Try.prog.inPlace 7) = true := by kernel_rfl
theorem jf10 : (Rows.fnRolesWithRow.unfollowed == Try.prog.unfollowed 7) = true := by kernel_rfl
theorem jf11 : (Rows.fnRolesWithRow.recurses == Try.prog.recurses 7) = true := by kernel_rfl
theorem jf12 : (Rows.fnRolesWithRow.named == Try.prog.varsNamed 7) = true := by kernel_rfl
theorem jf13 : (Rows.fnRolesWithRow.maps == (Try.f7.params.toList ++ Rows.fnRolesWithSpec.plain.varTypes Try.prog).any (Try.prog.mapsRec ·)) = true := by kernel_rfl
theorem jf14 : (Rows.fnRolesWithRow.ifaces == (Try.f7.params.toList ++ Rows.fnRolesWithSpec.plain.varTypes Try.prog).any (Try.prog.ifacesRec ·)) = true := by kernel_rfl
theorem jf15 : (Rows.fnRolesWithRow.mapsOut == Try.prog.mapsAmong Try.f7.resultTypes.toList) = true := by kernel_rfl
theorem jf16 : (Rows.fnRolesWithRow.loops == (Try.f7.params.toList ++ Rows.fnRolesWithSpec.plain.varTypes Try.prog).any (Try.prog.loopsFrom ·)) = true := by kernel_rfl
theorem jf17 : (Rows.fnRolesWithRow.wideKeys == (Try.f7.params.toList ++ Rows.fnRolesWithSpec.plain.varTypes Try.prog ++ Try.f7.resultTypes.toList).any (Try.prog.wideKeysFrom ·)) = true := by kernel_rfl
theorem jf18 : (Rows.fnRolesWithSpec.vars.all (Try.prog.varReadable ·)) = true := by kernel_rfl
theorem jf19 : (Try.f7.resultTypes.all (fun t => Try.prog.readableRec t && decide (t < Try.prog.types.size))) = true := by kernel_rfl
theorem jf20 : (Rows.fnRolesWithRow.ifacesOut == Try.f7.resultTypes.toList.any (Try.prog.ifacesRec ·)) = true := by kernel_rfl
theorem jf21 : (Rows.fnRolesWithRow.loopsOut == Try.f7.resultTypes.toList.any (Try.prog.loopsFrom ·)) = true := by kernel_rfl
theorem jf22 : (Rows.fnRolesWithRow.plainKeys == Try.prog.plainKeys) = true := by kernel_rfl
theorem jf23 : (Rows.fnRolesWithRow.shortTexts.isNone) = true := by kernel_rfl
theorem jf24 : (Try.prog.stopsHeard) = true := jz24
theorem jf25 : (Try.prog.mayEnter) = true := jz25
theorem jf26 : (Rows.fnRolesWithRow.lifted == Try.prog.liftsFinal) = true := jz26
theorem jf27 : (Try.prog.make == some Rows.fnRolesWithRow.make) = true := jz27
theorem jf29 : (Rows.fnRolesWithRow.pinned == Rows.fnRolesWithRow.pinnedBy) = true := by kernel_rfl
theorem jf30 : (Rows.fnRolesWithRow.veiled == (Try.f7.params.toList ++ Rows.fnRolesWithSpec.plain.varTypes Try.prog ++ Try.f7.resultTypes.toList).any (Try.prog.veiledRec ·)) = true := by kernel_rfl
theorem jf31 : (Rows.fnRolesWithRow.veiledFits Try.prog Try.f7.params.toList (Try.f7.params.toList ++ Rows.fnRolesWithSpec.plain.varTypes Try.prog ++ Try.f7.resultTypes.toList)) = true := by kernel_rfl
theorem joined : joinedFacts Try.prog 7 Try.f7 Rows.fnRolesWithSpec Rows.fnRolesWithRow = true := joined_of jf0 jf1 jf2 jf3 jf4 jf5 jf6 jf7 jf8 jf9 jf10 jf11 jf12 jf13 jf14 jf15 jf16 jf17 jf18 jf19 jf20 jf21 jf22 jf23 jf24 jf25 jf26 jf27 (by kernel_rfl) jf29 jf30 jf31
end Go.Proofs.Ytpoahajgaaoghaa
