/- Walks of functions of the cut by the abstract logic, and what they compute. Filled by a program of mine from a template. -/
import Derived.Test.YtaolcbhncnpldaaGreatDoorTQL
import Derived.Test.YtaolcbhncnpldaaGreatDoorPV
namespace Go.Proofs.YtaolcbhncnpldaaGreatDoor
open Go Go.AL
set_option linter.unusedSimpArgs false
set_option linter.unusedVariables false
/-! ### Texts of policies: plain facts -/
/-- The text of a scope. -/
def scopeT (n : Int) : List UInt8 := if n = -1 then [42] else if n = -2 then [63] else 35 :: decT n
theorem scopeT_len (n : Int) : (scopeT n).length ≤ 3 := by
  have := decT_len n
  unfold scopeT; (repeat' split) <;> simp <;> omega
theorem scopeT_inj {a b : Int} (ha : -2 ≤ a ∧ a ≤ 99) (hb : -2 ≤ b ∧ b ≤ 99) (h : scopeT a = scopeT b) : a = b := by
  unfold scopeT at h
  (repeat' split at h) <;> first
    | omega
    | (simp at h; done)
    | (simp only [List.cons.injEq, true_and] at h; exact decT_inj (by omega) (by omega) h)
theorem dec_blank {n : Int} (h : 0 ≤ n ∧ n ≤ 99) : ∀ b ∈ decT n, b ≠ 32 := fun b hb e => by
  have := decT_bytes h b hb
  rw [e] at this; revert this; decide
theorem scopeT_blank {n : Int} (h : -2 ≤ n ∧ n ≤ 99) : ∀ b ∈ scopeT n, b ≠ 32 := fun b hb e => by
  unfold scopeT at hb
  (repeat' split at hb)
  · simp at hb; rw [hb] at e; exact absurd e (by decide)
  · simp at hb; rw [hb] at e; exact absurd e (by decide)
  · rcases List.mem_cons.1 hb with hb | hb
    · rw [hb] at e; exact absurd e (by decide)
    · exact dec_blank (by omega) b hb e
def effT (b : Bool) : List UInt8 := if b then [97, 108, 108, 111, 119] else [102, 111, 114, 98, 105, 100]
theorem effT_blank (c : Bool) : ∀ b ∈ effT c, b ≠ 32 := by cases c <;> decide
theorem effT_len (c : Bool) : (effT c).length ≤ 6 := by cases c <;> decide
theorem effT_eq (c : Bool) : (effT c == [97, 108, 108, 111, 119]) = c := by cases c <;> decide
theorem name_blank {s : List UInt8} (h : nameB s = true) : ∀ b ∈ s, b ≠ 32 := fun b hb e => by
  have := (nameB_bytes h).1 b hb
  rw [e] at this; revert this; decide
/-- The text of a policy, whatever it is. -/
def polT (p : Policy) : List UInt8 := effT p.allow ++ 32 :: (p.name ++ 32 :: (scopeT p.who ++ 32 :: (scopeT p.what ++ 32 :: (decT p.acts ++ 32 :: exprT p.when))))
def policyT (p : Policy) : List UInt8 := if policyB p = true then polT p else []
theorem policyB_iff {p : Policy} (h : policyB p = true) : nameB p.name = true ∧ (-2 ≤ p.who ∧ p.who ≤ 6) ∧ (-1 ≤ p.what ∧ p.what ≤ 6) ∧ (1 ≤ p.acts ∧ p.acts ≤ 15) ∧ validE p.when = true := by
  simp only [policyB, Bool.and_eq_true, inB_t] at h
  exact ⟨h.1.1.1.1, h.1.1.1.2, h.1.1.2, h.1.2, h.2⟩
theorem validE_iff {e : Expr} (h : validE e = true) : goodE e = true ∧ cntE e ≤ 40 ∧ depE e ≤ 7 := by
  simp only [validE, Bool.and_eq_true, decide_eq_true_eq] at h
  exact ⟨h.1.1, by omega, by omega⟩
theorem polT_join (p : Policy) : Lib.join [effT p.allow, p.name, scopeT p.who, scopeT p.what, decT p.acts, exprT p.when] [32] = polT p := by
  rw [Lib.join_cons]
  simp [Lib.joinTail, polT]
theorem polT_len {p : Policy} (h : policyB p = true) : (polT p).length ≤ 1000 := by
  obtain ⟨h1, h2, h3, h4, h5⟩ := policyB_iff h
  obtain ⟨g1, g2, g3⟩ := validE_iff h5
  have a1 := effT_len p.allow
  have a2 := nameB_len h1
  have a3 := scopeT_len p.who
  have a4 := scopeT_len p.what
  have a5 := decT_len p.acts
  have a6 := exprT_len p.when g1
  simp only [polT, List.length_append, List.length_cons]
  omega
end Go.Proofs.YtaolcbhncnpldaaGreatDoor
