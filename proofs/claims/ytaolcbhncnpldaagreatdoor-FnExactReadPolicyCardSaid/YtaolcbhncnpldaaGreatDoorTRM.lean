/- Walks of functions of the cut by the abstract logic, and what they compute. Filled by a program of mine from a template. -/
import Derived.Test.YtaolcbhncnpldaaGreatDoorTRL
namespace Go.Proofs.YtaolcbhncnpldaaGreatDoor
open Go Go.AL
set_option linter.unusedSimpArgs false
set_option linter.unusedVariables false
/-! ### What a reader leaves is no longer than what it was given -/
theorem rs_le (s : List UInt8) : (rs s).length ≤ s.length := by have := congrArg List.length (wd_rs s); rw [List.length_append] at this; omega
theorem partsX_len {f : List UInt8 → Option (Expr × List UInt8)} (hf : ∀ s e r, f s = some (e, r) → r.length ≤ s.length) : ∀ (n : Nat) (s : List UInt8) ps r, partsX f n s = some (ps, r) → r.length ≤ s.length
  | 0, s, ps, r, h => by simp only [partsX, Option.some.injEq, Prod.mk.injEq] at h; rw [← h.2]; exact Nat.le_refl _
  | n + 1, s, ps, r, h => by
    rw [partsX] at h
    split at h
    · cases he : f s.tail with
      | none => rw [he] at h; cases h
      | some p =>
        obtain ⟨e, q⟩ := p
        rw [he] at h
        dsimp only at h
        cases hes : partsX f n q with
        | none => rw [hes] at h; cases h
        | some p =>
          obtain ⟨es, q'⟩ := p
          rw [hes] at h
          simp only [Option.some.injEq, Prod.mk.injEq] at h
          have h1 := partsX_len hf n q es q' hes
          have h2 := hf _ _ _ he
          have h3 := List.length_tail (l := s)
          rw [← h.2]; omega
    · cases h
theorem nodeX_len {f : List UInt8 → Option (Expr × List UInt8)} (hf : ∀ s e r, f s = some (e, r) → r.length ≤ s.length) {t : List UInt8} {e : Expr} {r : List UInt8} (h : nodeX f t = some (e, r)) : r.length ≤ t.length := by
  unfold nodeX at h
  cases hk : kindOf (wd t) with
  | none => rw [hk] at h; cases h
  | some k =>
    rw [hk] at h
    dsimp only at h
    cases hp : partsX f (partsN k).toNat (rs t) with
    | none => rw [hp] at h; cases h
    | some p =>
      obtain ⟨ps, q⟩ := p
      rw [hp] at h
      dsimp only at h
      have h1 := partsX_len hf _ _ _ _ hp
      have h2 := rs_le t
      cases hn : nameX k q with
      | none => rw [hn] at h; cases h
      | some p =>
        obtain ⟨nm, q'⟩ := p
        rw [hn] at h
        dsimp only at h
        have h3 : q'.length ≤ q.length := by
          unfold nameX at hn
          split at hn
          · split at hn
            · simp only [Option.some.injEq, Prod.mk.injEq] at hn
              have := rs_le q.tail
              have := List.length_tail (l := q)
              rw [← hn.2]; omega
            · cases hn
          · simp only [Option.some.injEq, Prod.mk.injEq] at hn
            rw [← hn.2]; exact Nat.le_refl _
        split at h
        · simp only [Option.some.injEq, Prod.mk.injEq] at h
          have := List.length_tail (l := q')
          rw [← h.2]; omega
        · cases h
theorem readX_len : ∀ (d : Nat) (s : List UInt8) e r, readX d s = some (e, r) → r.length ≤ s.length
  | 0, s, e, r, h => by cases h
  | d + 1, s, e, r, h => by
    rw [readX] at h
    split at h
    · have := nodeX_len (readX_len d) h
      have := List.length_tail (l := s)
      omega
    · simp only [Option.map_eq_some_iff] at h
      obtain ⟨a, ha, h⟩ := h
      simp only [Prod.mk.injEq] at h
      rw [← h.2]; exact rs_le s
/-- Parts, seen from the middle. -/
def midX (f : List UInt8 → Option (Expr × List UInt8)) (pre : List Expr) (n : Nat) (s : List UInt8) : Option (List Expr × List UInt8) := (partsX f n s).map fun p => (pre ++ p.1, p.2)
theorem midX_step {f : List UInt8 → Option (Expr × List UInt8)} {pre : List Expr} {n : Nat} {s : List UInt8} (h : s.head? = some 32) {e : Expr} {r : List UInt8} (he : f s.tail = some (e, r)) : midX f pre (n + 1) s = midX f (pre ++ [e]) n r := by
  unfold midX
  rw [partsX, if_pos h, he]
  dsimp only
  cases partsX f n r with
  | none => rfl
  | some p => simp
theorem midX_no {f : List UInt8 → Option (Expr × List UInt8)} {pre : List Expr} {n : Nat} {s : List UInt8} (h : ¬(s.head? = some 32)) : midX f pre (n + 1) s = none := by
  unfold midX
  rw [partsX, if_neg h]; rfl
theorem midX_bad {f : List UInt8 → Option (Expr × List UInt8)} {pre : List Expr} {n : Nat} {s : List UInt8} (h : s.head? = some 32) (he : f s.tail = none) : midX f pre (n + 1) s = none := by
  unfold midX
  rw [partsX, if_pos h, he]; rfl
theorem midX_nil {f : List UInt8 → Option (Expr × List UInt8)} {n : Nat} {s : List UInt8} : midX f [] n s = partsX f n s := by
  unfold midX
  cases partsX f n s with
  | none => rfl
  | some p => simp
theorem midX_end {f : List UInt8 → Option (Expr × List UInt8)} {pre : List Expr} {s : List UInt8} : midX f pre 0 s = some (pre, s) := by simp [midX, partsX]
theorem nodeX_p {f : List UInt8 → Option (Expr × List UInt8)} {t : List UInt8} {k : Int} (hk : kindOf (wd t) = some k) (h : partsX f (partsN k).toNat (rs t) = none) : nodeX f t = none := by
  unfold nodeX; rw [hk]; dsimp only; rw [h]
theorem nodeX_n {f : List UInt8 → Option (Expr × List UInt8)} {t r : List UInt8} {k : Int} {ps : List Expr} (hk : kindOf (wd t) = some k) (h : partsX f (partsN k).toNat (rs t) = some (ps, r)) (hn : nameX k r = none) : nodeX f t = none := by
  unfold nodeX; rw [hk]; dsimp only; rw [h]; dsimp only; rw [hn]
theorem nodeX_e {f : List UInt8 → Option (Expr × List UInt8)} {t r q nm : List UInt8} {k : Int} {ps : List Expr} (hk : kindOf (wd t) = some k) (h : partsX f (partsN k).toNat (rs t) = some (ps, r)) (hn : nameX k r = some (nm, q)) : nodeX f t = if q.head? = some 41 then some (.mk k 0 nm ps, q.tail) else none := by
  unfold nodeX; rw [hk]; dsimp only; rw [h]; dsimp only; rw [hn]
end Go.Proofs.YtaolcbhncnpldaaGreatDoor
