/- Walks of functions of the cut by the abstract logic, and what they compute. Filled by a program of mine from a template. -/
import Derived.Test.YtaolcbhncnpldaaGreatDoorTRX
import Derived.Lib.IndexAny
namespace Go.Proofs.YtaolcbhncnpldaaGreatDoor
open Go Go.AL Go.RowKit
set_option linter.unusedSimpArgs false
set_option linter.unusedVariables false
/-! ### Where a word ends -/
/-- The place of the first blank or bracket. -/
def idxD (s : List UInt8) : Int := if rs s = [] then -1 else ((wd s).length : Nat)
theorem contains_dlm (b : UInt8) : ([32, 40, 41] : List UInt8).contains b = dlm b := by
  simp only [List.contains, List.elem, dlm]
  cases h1 : (b == 32) <;> cases h2 : (b == 40) <;> cases h3 : (b == 41) <;> rfl
theorem indexAny_idxD : ∀ s : List UInt8, Lib.indexAny s [32, 40, 41] = idxD s
  | [] => rfl
  | b :: l => by
    have ih := indexAny_idxD l
    unfold Lib.indexAny
    rw [contains_dlm]
    cases hb : dlm b
    · have hw : wd (b :: l) = b :: wd l := by unfold wd; rw [List.takeWhile_cons_of_pos (by simp [hb])]
      have hr : rs (b :: l) = rs l := by unfold rs; rw [List.dropWhile_cons_of_pos (by simp [hb])]
      simp only [Bool.false_eq_true, if_false, ih, idxD, hw, hr, List.length_cons]
      by_cases h0 : rs l = []
      · simp [h0]
      · have : ¬((((wd l).length : Nat) : Int) == -1) = true := by simp only [beq_iff_eq]; omega
        simp only [h0, if_false, this]
        simp
    · have hw : wd (b :: l) = [] := by unfold wd; rw [List.takeWhile_cons_of_neg (by simp [hb])]
      have hr : rs (b :: l) = b :: l := by unfold rs; rw [List.dropWhile_cons_of_neg (by simp [hb])]
      simp only [if_true, idxD, hw, hr]
      simp
def asciiT (s : List UInt8) : Prop := ∀ (j : Nat) b, s[j]? = some b → b.toNat < 128
theorem idx_some (s : List UInt8) (Hs : s.length < 4294967281) (Ha : 8 < s.length ∨ asciiT s) : Gives Tryz.prog 107 [S s, S [32, 40, 41]] (I (idxD s)) := by
  refine ac_of_calls (R := fun v => v = _) Tryz.call107 fun w T J τ ρ vs hG hI hA => ?_
  obtain ⟨x, y, rfl, hx, hy⟩ := reps_two hA
  obtain ⟨rfl, hx2⟩ := rep_str hx
  obtain ⟨rfl, hy2⟩ := rep_str hy
  have hsz : (⟨s.toArray⟩ : ByteArray).size = s.length := by simp [ByteArray.size]
  have key : ∀ (e : Ending) (w' : World), (e = .returned (.int .i64 (Lib.indexAny s [32, 40, 41])) ∧ Below w.heap.size w w') → ∃ x r I', e = .returned x ∧ r = I (idxD s) ∧ Below w.heap.size w w' ∧ NewI J I' w w' ∧ RepA I' τ ρ 0 r x := fun e w' ⟨h1, h2⟩ => by
    rw [indexAny_idxD] at h1
    exact ⟨_, _, J, h1, rfl, h2, NewI.old hI h2, .d _ _ (.int _ _)⟩
  by_cases h8 : s.length ≤ 8
  · have has : asciiT s := Ha.resolve_left (by omega)
    refine Calls.mono (Tryz.strings_IndexAny_short ⟨s.toArray⟩ ⟨#[32, 40, 41]⟩ w (by decide) (by omega) (fun j b hb => has j b (by simpa using hb))) fun e w' ⟨h1, pos, h2⟩ => ?_
    subst h2
    exact key _ _ ⟨h1, (Below.refl _ _).alloc (Nat.le_refl _) _⟩
  · refine Calls.mono (Tryz.strings_IndexAny_long (fun w => by kernel_rfl) ⟨s.toArray⟩ ⟨#[32, 40, 41]⟩ w (by decide) (by omega) (by omega) (by decide) (fun j b hb => by
      have : b ∈ ([32, 40, 41] : List UInt8) := List.mem_of_getElem? hb
      simp at this
      rcases this with rfl | rfl | rfl <;> decide)) fun e w' ⟨h1, h2⟩ => ?_
    subst h2
    exact key _ _ ⟨h1, ((Below.refl _ w).alloc (Nat.le_refl _) _).alloc (by simp) _⟩
end Go.Proofs.YtaolcbhncnpldaaGreatDoor
