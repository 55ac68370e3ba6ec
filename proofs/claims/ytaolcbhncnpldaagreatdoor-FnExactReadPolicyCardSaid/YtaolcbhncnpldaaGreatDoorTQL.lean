/- Walks of functions of the cut by the abstract logic, and what they compute. Filled by a program of mine from a template. -/
import Derived.Test.YtaolcbhncnpldaaGreatDoorTP
import Derived.Test.YtaolcbhncnpldaaGreatDoorV1
namespace Go.Proofs.YtaolcbhncnpldaaGreatDoor
open Go Go.AL
set_option linter.unusedSimpArgs false
set_option linter.unusedVariables false
/-! ### Texts of expressions: plain facts -/
/-- The word of a kind. -/
def wordT (k : Int) : List UInt8 :=
  if k = 4 then [119, 104, 111] else if k = 5 then [119, 104, 97, 116] else if k = 6 then [97, 99, 116] else
  if k = 7 then [114, 101, 113, 117, 101, 115, 116] else if k = 8 then [102, 105, 101, 108, 100] else if k = 9 then [104, 97, 115] else
  if k = 10 then [115, 97, 109, 101] else if k = 11 then [108, 101, 115, 115] else if k = 12 then [105, 110] else
  if k = 13 then [110, 111, 116] else if k = 14 then [97, 110, 100] else if k = 15 then [111, 114] else []
theorem wordT_inj12 : ∀ a b : Fin 12, wordT ((a.val : Int) + 4) = wordT ((b.val : Int) + 4) → a = b := by decide +kernel
theorem wordT_inj {a b : Int} (ha : 4 ≤ a ∧ a ≤ 15) (hb : 4 ≤ b ∧ b ≤ 15) (h : wordT a = wordT b) : a = b := by
  have := wordT_inj12 ⟨(a - 4).toNat, by omega⟩ ⟨(b - 4).toNat, by omega⟩ (by
    rw [show (((a - 4).toNat : Nat) : Int) + 4 = a by omega, show (((b - 4).toNat : Nat) : Int) + 4 = b by omega]; exact h)
  simp only [Fin.mk.injEq] at this
  omega
theorem wordT_bytes12 : ∀ a : Fin 12, (wordT ((a.val : Int) + 4)).all (fun b => decide (97 ≤ b ∧ b ≤ 122)) = true := by decide +kernel
theorem wordT_bytes {a : Int} (ha : 4 ≤ a ∧ a ≤ 15) : ∀ b ∈ wordT a, 97 ≤ b ∧ b ≤ 122 := fun b hb => by
  have := wordT_bytes12 ⟨(a - 4).toNat, by omega⟩
  rw [show (((a - 4).toNat : Nat) : Int) + 4 = a by omega] at this
  simpa using List.all_eq_true.1 this b hb
theorem wordT_ne12 : ∀ a : Fin 12, wordT ((a.val : Int) + 4) ≠ [] := by decide +kernel
theorem wordT_ne {a : Int} (ha : 4 ≤ a ∧ a ≤ 15) : wordT a ≠ [] := by
  have := wordT_ne12 ⟨(a - 4).toNat, by omega⟩
  rwa [show (((a - 4).toNat : Nat) : Int) + 4 = a by omega] at this
theorem wordT_len (a : Int) : (wordT a).length ≤ 7 := by unfold wordT; (repeat' split) <;> simp
theorem wordT_val12 : ∀ a : Fin 12, wordT ((a.val : Int) + 4) ≠ [110, 111] ∧ wordT ((a.val : Int) + 4) ≠ [121, 101, 115] := by decide +kernel
theorem wordT_valT {a k n : Int} (ha : 4 ≤ a ∧ a ≤ 15) (h : valB k n 100 = true) : wordT a ≠ valT k n := fun e => by
  have h1 := wordT_val12 ⟨(a - 4).toNat, by omega⟩
  rw [show (((a - 4).toNat : Nat) : Int) + 4 = a by omega] at h1
  have hb := wordT_bytes ha
  rcases valB_k h with ⟨rfl, g⟩ | ⟨rfl, g⟩ | ⟨rfl, g⟩
  · rw [valT_1 g] at e
    unfold truT at e
    split at e
    · exact h1.1 e
    · exact h1.2 e
  · rw [valT_2 g] at e
    obtain ⟨b, l, hl⟩ := List.exists_cons_of_ne_nil (decT_ne g)
    have h2 := head_dec g hl
    have h3 := hb b (by rw [e, hl]; simp)
    have := UInt8.le_iff_toNat_le.1 h2.2
    have := UInt8.le_iff_toNat_le.1 h3.1
    simp at *; omega
  · rw [valT_3 (by omega)] at e
    have h3 := hb 35 (by rw [e]; simp)
    revert h3; decide
mutual
/-- The text of an expression. -/
def exprT : Expr → List UInt8
  | .mk k n nm ps => if k = 1 then truT n else if k = 2 then decT n else if k = 3 then 35 :: decT n else if k = 4 ∨ k = 5 ∨ k = 6 then wordT k
    else 40 :: (wordT k ++ (exprTs ps ++ ((if nm = [] then [] else 32 :: nm) ++ [41])))
def exprTs : List Expr → List UInt8
  | [] => []
  | e :: es => 32 :: (exprT e ++ exprTs es)
end
theorem exprT_mk (k n : Int) (nm : List UInt8) (ps : List Expr) : exprT (.mk k n nm ps) = if k = 1 then truT n else if k = 2 then decT n else if k = 3 then 35 :: decT n else if k = 4 ∨ k = 5 ∨ k = 6 then wordT k
    else 40 :: (wordT k ++ (exprTs ps ++ ((if nm = [] then [] else 32 :: nm) ++ [41]))) := by rw [exprT]
theorem exprTs_append (a b : List Expr) : exprTs (a ++ b) = exprTs a ++ exprTs b := by
  induction a with
  | nil => simp [exprTs]
  | cons x a ih => simp [exprTs, ih]
theorem goodEs_mem {ps : List Expr} (h : goodEs ps = true) : ∀ e ∈ ps, goodE e = true := by
  induction ps with
  | nil => intro e he; simp at he
  | cons x ps ih =>
    simp only [goodEs, Bool.and_eq_true] at h
    intro e he
    rcases List.mem_cons.1 he with rfl | he
    · exact h.1
    · exact ih h.2 e he
theorem depEs_mem {ps : List Expr} : ∀ e ∈ ps, depE e ≤ depEs ps := by
  induction ps with
  | nil => intro e he; simp at he
  | cons x ps ih =>
    intro e he
    simp only [depEs]
    rcases List.mem_cons.1 he with rfl | he
    · omega
    · have := ih e he; omega
/-- What a right expression is at its head. -/
theorem nodeB_more {k n : Int} {nm : List UInt8} {l : Nat} (h : nodeB k n nm l = true) : (1 ≤ k ∧ k ≤ 15) ∧ (0 ≤ n ∧ n ≤ greatN k) ∧ (l : Int) = partsN k ∧ (namedB k = true ↔ nm ≠ []) ∧ (nm ≠ [] → nameB nm = true) := by
  simp only [nodeB, Bool.and_eq_true, inB_t, beq_iff_eq] at h
  obtain ⟨⟨⟨⟨h1, h2⟩, h3⟩, h4⟩, h5⟩ := h
  refine ⟨h1, h2, h3, ?_, fun hn => ?_⟩
  · rw [h4]; simp
  · cases hk : namedB k
    · rw [hk] at h4
      have h4' : (nm == []) = true := by simpa using h4.symm
      exact absurd (by simpa using h4') hn
    · rw [hk] at h5
      simpa using h5
theorem nameB_len {s : List UInt8} (h : nameB s = true) : s.length ≤ 8 := (nameB_bytes h).2.2
/-- A right expression that is no list of others. -/
theorem leaf_cases {k n : Int} {nm : List UInt8} {l : Nat} (hn : nodeB k n nm l = true) (hk : k ≤ 6) : l = 0 ∧ nm = [] ∧ ((valB k n 100 = true ∧ k ≤ 3) ∨ ((k = 4 ∨ k = 5 ∨ k = 6) ∧ n = 0)) := by
  obtain ⟨h1, h2, h3, h4, h5⟩ := nodeB_more hn
  have hp : partsN k = 0 := by unfold partsN; rw [if_neg (by omega), if_neg (by omega)]
  have hb : ¬(namedB k = true) := by unfold namedB; simp; omega
  refine ⟨by omega, Classical.byContradiction fun h => hb (h4.2 h), ?_⟩
  unfold greatN at h2
  rcases (by omega : k = 1 ∨ k = 2 ∨ k = 3 ∨ (k = 4 ∨ k = 5 ∨ k = 6)) with rfl | rfl | rfl | h
  · left; refine ⟨?_, by omega⟩; unfold valB; rw [if_pos rfl, inB_t]; simpa using h2
  · left; refine ⟨?_, by omega⟩; unfold valB; rw [if_neg (by decide), if_pos rfl, inB_t]; simpa using h2
  · left; refine ⟨?_, by omega⟩; unfold valB; rw [if_neg (by decide), if_neg (by decide), if_pos rfl]; simp at h2 ⊢; omega
  · right; rw [if_neg (by omega), if_neg (by omega), if_neg (by omega)] at h2; exact ⟨h, by omega⟩
mutual
theorem exprT_len : ∀ e : Expr, goodE e = true → (exprT e).length ≤ 20 * cntE e
  | .mk k n nm ps, h => by
    rw [goodE_mk, Bool.and_eq_true] at h
    have h1 := exprTs_len ps h.2
    obtain ⟨_, _, _, _, h5⟩ := nodeB_more h.1
    have h6 := wordT_len k
    have h7 := decT_len n
    have h9 := partsN_le k
    have h10 : ps.length ≤ 2 := by omega
    have h8 : nm.length ≤ 8 := by
      by_cases hn : nm = []
      · simp [hn]
      · exact nameB_len (h5 hn)
    rw [exprT_mk, cntE_mk]
    unfold truT
    (repeat' split) <;> simp <;> omega
theorem exprTs_len : ∀ es : List Expr, goodEs es = true → (exprTs es).length ≤ 20 * cntEs es + es.length
  | [], _ => by simp [exprTs]
  | e :: es, h => by
    simp only [goodEs, Bool.and_eq_true] at h
    have h1 := exprT_len e h.1
    have h2 := exprTs_len es h.2
    simp only [exprTs, cntEs, List.length_cons, List.length_append]
    omega
end
end Go.Proofs.YtaolcbhncnpldaaGreatDoor
