/- Walks of functions of the cut by the abstract logic, and what they compute. Filled by a program of mine from a template. -/
import Derived.Test.YtfgalmgldidcmaaGreatZ1
namespace Go.Proofs.YtfgalmgldidcmaaGreat
open Go Go.AL
set_option linter.unusedSimpArgs false
set_option linter.unusedVariables false

/-! ### Policies: lists, and their orders -/
theorem idxGo_cnt {α : Type} (q : α → Bool) : ∀ (l : List α) (k : Nat), (idxGo q k l).length = (l.filter q).length
  | [], _ => rfl
  | x :: l, k => by
    have := idxGo_cnt q l (k + 1)
    rw [idxGo]
    by_cases h : q x <;> simp [h, this]
theorem idxF_cnt {α : Type} (q : α → Bool) (l : List α) : (idxF q l).length = (l.filter q).length := idxGo_cnt q l 0
theorem idxF_pos {α : Type} (q : α → Bool) (l : List α) : 0 < (idxF q l).length ↔ l.any q = true := by
  rw [idxF_cnt, List.length_pos_iff, Ne, List.filter_eq_nil_iff, List.any_eq_true]
  simp
theorem decG_allow (w : List Thing) (r : Request) (l : List Policy) : (decG w r l).allow = (l.any (isAllow w r) && !l.any (isForbid w r)) := by
  unfold decG
  have h1 := idxF_pos (isForbid w r) l
  have h2 := idxF_pos (isAllow w r) l
  split
  · rename_i h
    rw [h1] at h
    simp [h]
  · rename_i h
    rw [h1, Bool.not_eq_true] at h
    rw [h]
    simp only [Bool.not_false, Bool.and_true]
    rw [Bool.eq_iff_iff, decide_eq_true_eq, h2]
theorem polsGo_iff : ∀ (l pre : List Policy), polsGo pre l = true ↔ (∀ p ∈ l, policyB p = true ∧ p.who ≠ -2) ∧ (∀ p ∈ l, ∀ y ∈ pre, y.name ≠ p.name) ∧ (l.map Policy.name).Pairwise (· ≠ ·)
  | [], pre => by simp [polsGo]
  | x :: l, pre => by
    simp only [polsGo, Bool.and_eq_true, polsGo_iff l (pre ++ [x]), List.map_cons, List.pairwise_cons, List.mem_cons, List.mem_append, forall_eq_or_imp, Bool.not_eq_true', beq_eq_false_iff_ne]
    constructor
    · rintro ⟨⟨⟨h1, h2⟩, h3⟩, h4, h5, h6⟩
      refine ⟨⟨⟨h1, h2⟩, h4⟩, ⟨fun y hy => ?_, fun p hp y hy => h5 p hp y (.inl hy)⟩, fun a ha => ?_, h6⟩
      · have := List.any_eq_false.1 h3 y hy
        simpa using this
      · obtain ⟨p, hp, rfl⟩ := List.mem_map.1 ha
        exact h5 p hp x (.inr (by simp))
    · rintro ⟨⟨⟨h1, h2⟩, h4⟩, ⟨h7, h8⟩, h9, h6⟩
      refine ⟨⟨⟨h1, h2⟩, ?_⟩, h4, fun p hp y hy => ?_, h6⟩
      · rw [List.any_eq_false]
        intro y hy
        simpa using h7 y hy
      · rcases hy with hy | hy
        · exact h8 p hp y hy
        · simp at hy
          subst hy
          exact h9 p.name (List.mem_map.2 ⟨p, hp, rfl⟩)
theorem polsB_iff (l : List Policy) : polsB l = true ↔ ((∀ p ∈ l, policyB p = true ∧ p.who ≠ -2) ∧ (l.map Policy.name).Pairwise (· ≠ ·)) ∧ l.length ≤ 6 := by
  simp only [polsB, Bool.and_eq_true, polsGo_iff, decide_eq_true_eq, List.not_mem_nil, false_imp_iff, implies_true, true_and]
  constructor
  · rintro ⟨h1, h2⟩; exact ⟨h1, by omega⟩
  · rintro ⟨h1, h2⟩; exact ⟨h1, by omega⟩
theorem decB_allow (w : List Thing) (r : Request) (l : List Policy) : (decB w r l).allow = (reqB w r && polsB l && (l.any (isAllow w r) && !l.any (isForbid w r))) := by
  unfold decB
  cases h1 : reqB w r <;> cases h2 : polsB l <;> simp [decG_allow]
end Go.Proofs.YtfgalmgldidcmaaGreat
