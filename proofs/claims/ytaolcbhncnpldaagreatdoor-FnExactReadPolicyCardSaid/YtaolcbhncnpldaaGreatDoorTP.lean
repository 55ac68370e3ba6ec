/- Walks of functions of the cut by the abstract logic, and what they compute. Filled by a program of mine from a template. -/
import Derived.Test.YtaolcbhncnpldaaGreatDoorW2
import Derived.Lib.Split
import Derived.Lib.Join
import Derived.Lib.ItoaNum
import Derived.Lib.IndexMore
import Derived.Lib.IndexBytes
import Derived.Lib.CountLaws
namespace Go.Proofs.YtaolcbhncnpldaaGreatDoor
open Go Go.AL
set_option linter.unusedSimpArgs false
set_option linter.unusedVariables false
/-! ### Texts: plain facts -/
/-- A number of at most two digits. -/
def d2 (u : Nat) : List UInt8 := if u < 10 then [UInt8.ofNat (48 + u)] else [UInt8.ofNat (48 + u / 10), UInt8.ofNat (48 + u % 10)]
def decT (n : Int) : List UInt8 := d2 n.toNat
theorem dec_d2 {u : Nat} (h : u < 100) : Lib.decDigits u = d2 u := by
  unfold d2
  rw [Lib.decDigits]
  split
  · rfl
  · rw [Lib.decDigits, dif_pos (by omega)]; rfl
theorem d2_inj : ∀ a b : Fin 100, d2 a.val = d2 b.val → a = b := by decide +kernel
theorem d2_bytes : ∀ a : Fin 100, (d2 a.val).all (fun b => decide (48 ≤ b ∧ b ≤ 57)) = true := by decide +kernel
theorem d2_ne : ∀ a : Fin 100, d2 a.val ≠ [] := by decide +kernel
theorem d2_len (u : Nat) : (d2 u).length ≤ 2 := by unfold d2; split <;> simp
theorem decT_inj {a b : Int} (ha : 0 ≤ a ∧ a ≤ 99) (hb : 0 ≤ b ∧ b ≤ 99) (h : decT a = decT b) : a = b := by
  have := d2_inj ⟨a.toNat, by omega⟩ ⟨b.toNat, by omega⟩ h
  simp only [Fin.mk.injEq] at this
  omega
theorem decT_bytes {a : Int} (ha : 0 ≤ a ∧ a ≤ 99) : ∀ b ∈ decT a, 48 ≤ b ∧ b ≤ 57 := fun b hb => by
  have := List.all_eq_true.1 (d2_bytes ⟨a.toNat, by omega⟩) b hb
  simpa using this
theorem decT_ne {a : Int} (ha : 0 ≤ a ∧ a ≤ 99) : decT a ≠ [] := d2_ne ⟨a.toNat, by omega⟩
theorem decT_len (a : Int) : (decT a).length ≤ 2 := d2_len _
def truT (n : Int) : List UInt8 := if n = 0 then [110, 111] else [121, 101, 115]
/-- The text of a value. -/
def valT (k n : Int) : List UInt8 := if valB k n 100 = true then (if k = 1 then truT n else if k = 2 then decT n else 35 :: decT n) else []
theorem valB_k {k n m : Int} (h : valB k n m = true) : (k = 1 ∧ 0 ≤ n ∧ n ≤ 1) ∨ (k = 2 ∧ 0 ≤ n ∧ n ≤ 99) ∨ (k = 3 ∧ 0 ≤ n ∧ n < m) := by
  unfold valB at h
  split at h
  · left; exact ⟨by assumption, inB_t.1 h⟩
  · split at h
    · right; left; exact ⟨by assumption, inB_t.1 h⟩
    · split at h
      · right; right; refine ⟨by assumption, ?_⟩; simpa using h
      · cases h
theorem valB_99 {k n : Int} (h : valB k n 100 = true) : 1 ≤ k ∧ k ≤ 3 ∧ 0 ≤ n ∧ n ≤ 99 := by
  rcases valB_k h with h | h | h <;> omega
theorem valT_1 {n : Int} (h : 0 ≤ n ∧ n ≤ 1) : valT 1 n = truT n := by
  have : valB 1 n 100 = true := by unfold valB; rw [if_pos rfl]; exact inB_t.2 h
  simp [valT, this]
theorem valT_2 {n : Int} (h : 0 ≤ n ∧ n ≤ 99) : valT 2 n = decT n := by
  have : valB 2 n 100 = true := by unfold valB; rw [if_neg (by decide), if_pos rfl]; exact inB_t.2 h
  simp [valT, this]
theorem valT_3 {n : Int} (h : 0 ≤ n ∧ n ≤ 99) : valT 3 n = 35 :: decT n := by
  have : valB 3 n 100 = true := by unfold valB; rw [if_neg (by decide), if_neg (by decide), if_pos rfl]; simp; omega
  simp [valT, this]
theorem valT_ne {k n : Int} (h : valT k n ≠ []) : valB k n 100 = true := by
  unfold valT at h
  split at h
  · assumption
  · exact absurd rfl h
theorem valT_nn {k n : Int} (h : valB k n 100 = true) : valT k n ≠ [] := by
  rcases valB_k h with ⟨rfl, g⟩ | ⟨rfl, g⟩ | ⟨rfl, g⟩
  · rw [valT_1 g]; unfold truT; split <;> simp
  · rw [valT_2 g]; exact decT_ne g
  · rw [valT_3 (by omega)]; simp
theorem head_dec {n : Int} (h : 0 ≤ n ∧ n ≤ 99) {b : UInt8} {l : List UInt8} (e : decT n = b :: l) : 48 ≤ b ∧ b ≤ 57 := decT_bytes h b (by simp [e])
theorem truT_inj {a b : Int} (ha : 0 ≤ a ∧ a ≤ 1) (hb : 0 ≤ b ∧ b ≤ 1) (h : truT a = truT b) : a = b := by
  unfold truT at h
  split at h <;> split at h <;> first | omega | (simp at h)
theorem tru_dec {a n : Int} (h : 0 ≤ n ∧ n ≤ 99) : truT a ≠ decT n := fun e => by
  unfold truT at e
  split at e
  · have := head_dec h e.symm; revert this; decide
  · have := head_dec h e.symm; revert this; decide
theorem valT_inj {k n k' n' : Int} (h : valB k n 100 = true) (h' : valB k' n' 100 = true) (e : valT k n = valT k' n') : k = k' ∧ n = n' := by
  have t3 : ∀ (a : Int) (l : List UInt8), truT a ≠ 35 :: l := fun a l e => by unfold truT at e; split at e <;> simp at e
  have d3 : ∀ {a : Int}, 0 ≤ a ∧ a ≤ 99 → ∀ l : List UInt8, decT a ≠ 35 :: l := fun ha l e => by have := head_dec ha e; revert this; decide
  rcases valB_k h with ⟨rfl, g⟩ | ⟨rfl, g⟩ | ⟨rfl, g⟩ <;> rcases valB_k h' with ⟨rfl, g'⟩ | ⟨rfl, g'⟩ | ⟨rfl, g'⟩
  · rw [valT_1 g, valT_1 g'] at e; exact ⟨rfl, truT_inj g g' e⟩
  · rw [valT_1 g, valT_2 g'] at e; exact absurd e (tru_dec g')
  · rw [valT_1 g, valT_3 (by omega)] at e; exact absurd e (t3 _ _)
  · rw [valT_2 g, valT_1 g'] at e; exact absurd e.symm (tru_dec g)
  · rw [valT_2 g, valT_2 g'] at e; exact ⟨rfl, decT_inj g g' e⟩
  · rw [valT_2 g, valT_3 (by omega)] at e; exact absurd e (d3 g _)
  · rw [valT_3 (by omega), valT_1 g'] at e; exact absurd e.symm (t3 _ _)
  · rw [valT_3 (by omega), valT_2 g'] at e; exact absurd e.symm (d3 g' _)
  · rw [valT_3 (by omega), valT_3 (by omega)] at e; exact ⟨rfl, decT_inj (by omega) (by omega) (List.cons.inj e).2⟩
theorem nameB_bytes {s : List UInt8} (h : nameB s = true) : (∀ b ∈ s, 97 ≤ b.toNat ∧ b.toNat ≤ 122) ∧ 1 ≤ s.length ∧ s.length ≤ 8 := by
  simp only [nameB, Bool.and_eq_true, List.all_eq_true, inB_t, letter, decide_eq_true_eq] at h
  exact ⟨fun b hb => h.1 b hb, by omega, by omega⟩
/-- The text of a field. -/
def fieldT (f : Field) : List UInt8 := f.name ++ 61 :: valT f.kind f.number
/-- A text cut at blanks. -/
def wordsT : List UInt8 → List (List UInt8)
  | [] => [[]]
  | b :: l => if b = 32 then [] :: wordsT l else match wordsT l with
    | [] => [[b]]
    | w :: ws => (b :: w) :: ws
/-! ### Cutting and splitting at one byte -/
theorem ixb (c : UInt8) : ∀ s : List UInt8, (Lib.indexByte s c = -1 ∧ ∀ b ∈ s, b ≠ c) ∨ ∃ p q, s = p ++ c :: q ∧ (∀ b ∈ p, b ≠ c) ∧ Lib.indexByte s c = (p.length : Nat)
  | [] => .inl ⟨rfl, by simp⟩
  | b :: l => by
    by_cases hb : b = c
    · subst hb
      exact .inr ⟨[], l, rfl, by simp, by simp [Lib.indexByte]⟩
    · have hbe : (b == c) = false := by simp [hb]
      rcases ixb c l with ⟨h1, h2⟩ | ⟨p, q, rfl, h2, h3⟩
      · refine .inl ⟨by simp [Lib.indexByte, hbe, h1], fun x hx => ?_⟩
        rcases List.mem_cons.1 hx with rfl | hx
        · exact hb
        · exact h2 x hx
      · refine .inr ⟨b :: p, q, rfl, fun x hx => ?_, ?_⟩
        · rcases List.mem_cons.1 hx with rfl | hx
          · exact hb
          · exact h2 x hx
        · have : ((p.length : Int) == -1) = false := by rw [beq_eq_false_iff_ne]; omega
          simp only [Lib.indexByte, hbe, h3, this]
          simp
end Go.Proofs.YtaolcbhncnpldaaGreatDoor
