/- Walks of functions of the cut by the abstract logic, and what they compute. Filled by a program of mine from a template. -/
import Derived.Test.YtaolcbhncnpldaaGreatDoorTPL
import Derived.Test.YtaolcbhncnpldaaGreatDoorTQP
import Derived.Lib.AtoiErrMem
namespace Go.Proofs.YtaolcbhncnpldaaGreatDoor
open Go Go.AL Go.RowKit
set_option linter.unusedSimpArgs false
set_option linter.unusedVariables false
/-! ### More of the library's functions on texts -/
def atoiW (s : List UInt8) : Int := match Lib.atoiAll s with
  | .ok v => v
  | _ => 0
def atoiB (s : List UInt8) : Bool := match Lib.atoiAll s with
  | .ok _ => true
  | _ => false
theorem atoi_d2 : ∀ a : Fin 100, (atoiB (d2 a.val) && decide (atoiW (d2 a.val) = (a.val : Int))) = true := by decide +kernel
theorem atoiW_text {n : Int} (h : 0 ≤ n ∧ n ≤ 99) : atoiW (decT n) = n := by
  have := atoi_d2 ⟨n.toNat, by omega⟩
  simp only [Bool.and_eq_true, decide_eq_true_eq] at this
  rw [decT, this.2]
  omega
theorem atoiB_text {n : Int} (h : 0 ≤ n ∧ n ≤ 99) : atoiB (decT n) = true := by
  have := atoi_d2 ⟨n.toNat, by omega⟩
  simp only [Bool.and_eq_true] at this
  exact this.1
/-- A word that the program takes. -/
theorem cutp_ok (s p : List UInt8) : Gives Tryz.prog 105 [S s, S p] (.tup [S (Lib.trimPrefix s p), B (Lib.hasPrefix s p)]) := by
  refine ac_of_calls (R := fun v => v = _) Tryz.call105 fun w T J τ ρ vs hG hI hA => ?_
  obtain ⟨x, y, rfl, hx, hy⟩ := reps_two hA
  obtain ⟨rfl, hx2⟩ := rep_str hx
  obtain ⟨rfl, hy2⟩ := rep_str hy
  have hl := Lib.trimPrefix_le s p
  refine Calls.mono (Tryz.strings_CutPrefix ⟨s.toArray⟩ ⟨p.toArray⟩ w) fun e w' ⟨h1, h2⟩ => ?_
  subst h2
  refine ⟨_, _, J, h1, rfl, Below.refl _ _, NewI.old hI (Below.refl _ _), ?_⟩
  refine .tup _ [_, _] rfl fun i v x hv hx => ?_
  match i, hv, hx with
  | 0, hv, hx => cases hv; cases hx; exact .d _ _ (.str _ (by omega))
  | 1, hv, hx => cases hv; cases hx; exact .d _ _ (.bool _)
  | i + 2, hv, hx => simp at hv
theorem atoi_any (s : List UInt8) (Hs : s.length ≤ 4294967295) : GivesR Tryz.prog 34 [S s] fun v => ∃ n : Int, v = .tup [I n, .unk] ∧ (atoiB s = true → n = atoiW s) := by
  refine ac_of_calls (R := fun v => ∃ n : Int, v = .tup [I n, .unk] ∧ (atoiB s = true → n = atoiW s)) Tryz.call34 fun w T J τ ρ vs hG hI hA => ?_
  obtain ⟨x, rfl, hx⟩ := reps_one hA
  obtain ⟨rfl, hx2⟩ := rep_str hx
  obtain ⟨_, _, ⟨_, v0, c0, d0⟩, ⟨_, v1, c1, d1⟩⟩ := hG
  have hsz : (⟨s.toArray⟩ : ByteArray).size ≤ 4294967295 := by simpa [ByteArray.size] using Hs
  have fin : ∀ (n : Int) (y : Value) (e : Ending) (w' : World), (atoiB s = true → n = atoiW s) → e = .returned (.tuple #[.int .i64 n, y]) → Below w.heap.size w w' →
      ∃ x r I', e = .returned x ∧ (∃ n : Int, r = .tup [I n, .unk] ∧ (atoiB s = true → n = atoiW s)) ∧ Below w.heap.size w w' ∧ NewI J I' w w' ∧ RepA I' τ ρ 0 r x := fun n y e w' hn he hb => by
    refine ⟨_, .tup [I n, .unk], J, he, ⟨n, rfl, hn⟩, hb, NewI.old hI hb, ?_⟩
    refine .tup _ [_, _] rfl fun i v x hv hx => ?_
    match i, hv, hx with
    | 0, hv, hx => cases hv; cases hx; exact .d _ _ (.int _ _)
    | 1, hv, hx => cases hv; cases hx; exact .unk _
    | i + 2, hv, hx => simp at hv
  cases ha : Lib.atoiAll s with
  | ok v =>
    have hw : atoiW s = v := by unfold atoiW; rw [ha]
    refine Calls.mono (Tryz.strconv_Atoi_ok ⟨s.toArray⟩ (by omega) v (by simpa using ha) w) fun e w' ⟨h1, h2⟩ => ?_
    have hb : Below w.heap.size w w' := by
      rcases h2 with rfl | ⟨t, rfl⟩
      · exact Below.refl _ _
      · exact Lib.bytesWorld_below w _ t
    exact fin v _ e w' (fun _ => hw.symm) h1 hb
  | range =>
    have hB : atoiB s = true → ∀ n : Int, n = atoiW s := fun h => by unfold atoiB at h; rw [ha] at h; cases h
    exact Calls.mono (Go.Proofs.Any.strconv_Atoi_range Tryz.laysC172 ⟨s.toArray⟩ (by omega) (by simpa using ha) v1 w c1 d1) fun e w' ⟨N, h1, _, _, h2⟩ => fin _ _ e w' (fun h => hB h _) h1 h2
  | _ =>
    have hB : atoiB s = true → ∀ n : Int, n = atoiW s := fun h => by unfold atoiB at h; rw [ha] at h; cases h
    exact Calls.mono (Go.Proofs.Any.strconv_Atoi_syntax Tryz.laysC172 ⟨s.toArray⟩ (by omega) (by simpa using ha) v0 w c0 d0) fun e w' ⟨N, h1, _, _, h2⟩ => fin _ _ e w' (fun h => hB h _) h1 h2
end Go.Proofs.YtaolcbhncnpldaaGreatDoor
