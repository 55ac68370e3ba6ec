/- Walks of functions of the cut by the abstract logic, and what they compute. Filled by a program of mine from a template. -/
import Derived.Test.YtaolcbhncnpldaaDoorW2
import Derived.Lib.Split
import Derived.Lib.Join
import Derived.Lib.ItoaNum
import Derived.Lib.IndexMore
import Derived.Lib.IndexBytes
import Derived.Lib.CountLaws
namespace Go.Proofs.YtaolcbhncnpldaaDoor
open Go Go.AL
set_option linter.unusedSimpArgs false
set_option linter.unusedVariables false
/-! ### Texts: plain facts -/
/-- A number of at most two digits. -/
def d2 (u : Nat) : List UInt8 := if u < 10 then [UInt8.ofNat (48 + u)] else [UInt8.ofNat (48 + u / 10), UInt8.ofNat (48 + u % 10)]
def decT (n : Int) : List UInt8 := d2 n.toNat
theorem dec_d2 {u : Nat} (h : u < 100) : Lib.decDigits u = d2 u := by
  unfold d2
  rw [Lib.decDigits]
  split
  · rfl
  · rw [Lib.decDigits, dif_pos (by omega)]; rfl
theorem d2_len (u : Nat) : (d2 u).length ≤ 2 := by unfold d2; split <;> simp
theorem decT_len (a : Int) : (decT a).length ≤ 2 := d2_len _
def truT (n : Int) : List UInt8 := if n = 0 then [110, 111] else [121, 101, 115]
/-- The text of a value. -/
def valT (k n : Int) : List UInt8 := if valB k n 100 = true then (if k = 1 then truT n else if k = 2 then decT n else 35 :: decT n) else []
theorem valB_k {k n m : Int} (h : valB k n m = true) : (k = 1 ∧ 0 ≤ n ∧ n ≤ 1) ∨ (k = 2 ∧ 0 ≤ n ∧ n ≤ 99) ∨ (k = 3 ∧ 0 ≤ n ∧ n < m) := by
  unfold valB at h
  split at h
  · left; exact ⟨by assumption, inB_t.1 h⟩
  · split at h
    · right; left; exact ⟨by assumption, inB_t.1 h⟩
    · split at h
      · right; right; refine ⟨by assumption, ?_⟩; simpa using h
      · cases h
theorem valB_99 {k n : Int} (h : valB k n 100 = true) : 1 ≤ k ∧ k ≤ 3 ∧ 0 ≤ n ∧ n ≤ 99 := by
  rcases valB_k h with h | h | h <;> omega
theorem nameB_bytes {s : List UInt8} (h : nameB s = true) : (∀ b ∈ s, 97 ≤ b.toNat ∧ b.toNat ≤ 122) ∧ 1 ≤ s.length ∧ s.length ≤ 8 := by
  simp only [nameB, Bool.and_eq_true, List.all_eq_true, inB_t, letter, decide_eq_true_eq] at h
  exact ⟨fun b hb => h.1 b hb, by omega, by omega⟩
/-- The text of a field. -/
def fieldT (f : Field) : List UInt8 := f.name ++ 61 :: valT f.kind f.number
/-- A text cut at blanks. -/
def wordsT : List UInt8 → List (List UInt8)
  | [] => [[]]
  | b :: l => if b = 32 then [] :: wordsT l else match wordsT l with
    | [] => [[b]]
    | w :: ws => (b :: w) :: ws
/-! ### Cutting and splitting at one byte -/
end Go.Proofs.YtaolcbhncnpldaaDoor
