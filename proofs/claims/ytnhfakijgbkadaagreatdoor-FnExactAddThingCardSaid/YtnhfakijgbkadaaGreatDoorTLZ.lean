/- Walks of functions of the cut by the abstract logic, and what they compute. Filled by a program of mine from a template. -/
import Derived.Test.YtnhfakijgbkadaaGreatDoorTA
import Derived.Lib.AtoiErrMem
namespace Go.Proofs.YtnhfakijgbkadaaGreatDoor
open Go Go.AL Go.RowKit
set_option linter.unusedSimpArgs false
set_option linter.unusedVariables false
/-! ### More of the library's functions on texts -/
theorem cutp_ok (s p : List UInt8) : Gives Tryz.prog 31 [S s, S p] (.tup [S (Lib.trimPrefix s p), B (Lib.hasPrefix s p)]) := by
  refine ac_of_calls (R := fun v => v = _) Tryz.call31 fun w T J τ ρ vs hG hI hA => ?_
  obtain ⟨x, y, rfl, hx, hy⟩ := reps_two hA
  obtain ⟨rfl, hx2⟩ := rep_str hx
  obtain ⟨rfl, hy2⟩ := rep_str hy
  have hl := Lib.trimPrefix_le s p
  refine Calls.mono (Tryz.strings_CutPrefix ⟨s.toArray⟩ ⟨p.toArray⟩ w) fun e w' ⟨h1, h2⟩ => ?_
  subst h2
  refine ⟨_, _, J, h1, rfl, Below.refl _ _, NewI.old hI (Below.refl _ _), ?_⟩
  refine .tup _ [_, _] rfl fun i v x hv hx => ?_
  match i, hv, hx with
  | 0, hv, hx => cases hv; cases hx; exact .d _ _ (.str _ (by omega))
  | 1, hv, hx => cases hv; cases hx; exact .d _ _ (.bool _)
  | i + 2, hv, hx => simp at hv
theorem atoi_t (s : List UInt8) (h : atoiB s = true) (Hs : s.length ≤ 4294967295) : Gives Tryz.prog 32 [S s] (.tup [I (atoiW s), .nilI]) := by
  refine ac_of_calls (R := fun v => v = _) Tryz.call32 fun w T J τ ρ vs hG hI hA => ?_
  obtain ⟨x, rfl, hx⟩ := reps_one hA
  obtain ⟨rfl, hx2⟩ := rep_str hx
  have hsz : (⟨s.toArray⟩ : ByteArray).size ≤ 4294967295 := by simpa [ByteArray.size] using Hs
  cases ha : Lib.atoiAll s with
  | ok v =>
    have hw : atoiW s = v := by unfold atoiW; rw [ha]
    refine Calls.mono (Tryz.strconv_Atoi_ok ⟨s.toArray⟩ (by omega) v (by simpa using ha) w) fun e w' ⟨h1, h2⟩ => ?_
    have hb : Below w.heap.size w w' := by
      rcases h2 with rfl | ⟨t, rfl⟩
      · exact Below.refl _ _
      · exact Lib.bytesWorld_below w _ t
    refine ⟨_, _, J, h1, rfl, hb, NewI.old hI hb, ?_⟩
    rw [hw]
    refine .tup _ [_, _] rfl fun i v x hv hx => ?_
    match i, hv, hx with
    | 0, hv, hx => cases hv; cases hx; exact .d _ _ (.int _ _)
    | 1, hv, hx => cases hv; cases hx; exact .nilI
    | i + 2, hv, hx => simp at hv
  | _ =>
    unfold atoiB at h
    rw [ha] at h
    cases h
theorem atoi_f (s : List UInt8) (h : atoiB s = false) (Hs : s.length ≤ 4294967295) : GivesR Tryz.prog 32 [S s] fun v => ∃ n : Int, v = .tup [I n, .errI] := by
  refine ac_of_calls (R := fun v => ∃ n : Int, v = .tup [I n, .errI]) Tryz.call32 fun w T J τ ρ vs hG hI hA => ?_
  obtain ⟨x, rfl, hx⟩ := reps_one hA
  obtain ⟨rfl, hx2⟩ := rep_str hx
  obtain ⟨_, ⟨_, v0, c0, d0⟩, ⟨_, v1, c1, d1⟩⟩ := hG
  have hsz : (⟨s.toArray⟩ : ByteArray).size ≤ 4294967295 := by simpa [ByteArray.size] using Hs
  have fin : ∀ (n : Int) (t : TypeId) (p : Value) (e : Ending) (w' : World), e = .returned (.tuple #[.int .i64 n, .iface t p]) → Below w.heap.size w w' →
      ∃ x r I', e = .returned x ∧ (∃ n : Int, r = .tup [I n, .errI]) ∧ Below w.heap.size w w' ∧ NewI J I' w w' ∧ RepA I' τ ρ 0 r x := fun n t p e w' he hb => by
    refine ⟨_, .tup [I n, .errI], J, he, ⟨n, rfl⟩, hb, NewI.old hI hb, ?_⟩
    refine .tup _ [_, _] rfl fun i v x hv hx => ?_
    match i, hv, hx with
    | 0, hv, hx => cases hv; cases hx; exact .d _ _ (.int _ _)
    | 1, hv, hx => cases hv; cases hx; exact .errI _ _
    | i + 2, hv, hx => simp at hv
  cases ha : Lib.atoiAll s with
  | ok v =>
    unfold atoiB at h
    rw [ha] at h
    cases h
  | range =>
    exact Calls.mono (Go.Proofs.Any.strconv_Atoi_range Tryz.laysC172 ⟨s.toArray⟩ (by omega) (by simpa using ha) v1 w c1 d1) fun e w' ⟨N, h1, _, _, h2⟩ => fin _ _ _ e w' h1 h2
  | _ =>
    exact Calls.mono (Go.Proofs.Any.strconv_Atoi_syntax Tryz.laysC172 ⟨s.toArray⟩ (by omega) (by simpa using ha) v0 w c0 d0) fun e w' ⟨N, h1, _, _, h2⟩ => fin _ _ _ e w' h1 h2
theorem cutp_g {w : List UInt8} (h : isG w = true) : Lib.hasPrefix w [60] = true ∧ Lib.trimPrefix w [60] = w.drop 1 := by
  obtain ⟨b, r, rfl⟩ : ∃ b r, w = b :: r := List.exists_cons_of_ne_nil (by rintro rfl; simp [isG] at h)
  simp [isG] at h
  subst h
  simp [Lib.hasPrefix, Lib.trimPrefix]
theorem cutp_n {w : List UInt8} (h : isG w = false) : Lib.hasPrefix w [60] = false := by
  cases w with
  | nil => rfl
  | cons b r =>
    simp [isG] at h
    simp [Lib.hasPrefix, List.isPrefixOf]
    exact fun e => h e.symm
end Go.Proofs.YtnhfakijgbkadaaGreatDoor
