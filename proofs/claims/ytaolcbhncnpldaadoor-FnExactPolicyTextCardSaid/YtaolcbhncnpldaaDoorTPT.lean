/- Walks of functions of the cut by the abstract logic, and what they compute. Filled by a program of mine from a template. -/
import Derived.Test.YtaolcbhncnpldaaDoorTQL
import Derived.Test.YtaolcbhncnpldaaDoorPV
namespace Go.Proofs.YtaolcbhncnpldaaDoor
open Go Go.AL
set_option linter.unusedSimpArgs false
set_option linter.unusedVariables false
/-! ### Texts of policies: plain facts -/
/-- The text of a scope. -/
def scopeT (n : Int) : List UInt8 := if n = -1 then [42] else if n = -2 then [63] else 35 :: decT n
theorem scopeT_len (n : Int) : (scopeT n).length ≤ 3 := by
  have := decT_len n
  unfold scopeT; (repeat' split) <;> simp <;> omega
def effT (b : Bool) : List UInt8 := if b then [97, 108, 108, 111, 119] else [102, 111, 114, 98, 105, 100]
theorem effT_len (c : Bool) : (effT c).length ≤ 6 := by cases c <;> decide
/-- The text of a policy, whatever it is. -/
def polT (p : Policy) : List UInt8 := effT p.allow ++ 32 :: (p.name ++ 32 :: (scopeT p.who ++ 32 :: (scopeT p.what ++ 32 :: (decT p.acts ++ 32 :: exprT p.when))))
def policyT (p : Policy) : List UInt8 := if policyB p = true then polT p else []
theorem policyB_iff {p : Policy} (h : policyB p = true) : nameB p.name = true ∧ (-2 ≤ p.who ∧ p.who ≤ 6) ∧ (-1 ≤ p.what ∧ p.what ≤ 6) ∧ (1 ≤ p.acts ∧ p.acts ≤ 15) ∧ validE p.when = true := by
  simp only [policyB, Bool.and_eq_true, inB_t] at h
  exact ⟨h.1.1.1.1, h.1.1.1.2, h.1.1.2, h.1.2, h.2⟩
theorem validE_iff {e : Expr} (h : validE e = true) : goodE e = true ∧ cntE e ≤ 40 ∧ depE e ≤ 7 := by
  simp only [validE, Bool.and_eq_true, decide_eq_true_eq] at h
  exact ⟨h.1.1, by omega, by omega⟩
theorem polT_join (p : Policy) : Lib.join [effT p.allow, p.name, scopeT p.who, scopeT p.what, decT p.acts, exprT p.when] [32] = polT p := by
  rw [Lib.join_cons]
  simp [Lib.joinTail, polT]
theorem polT_len {p : Policy} (h : policyB p = true) : (polT p).length ≤ 1000 := by
  obtain ⟨h1, h2, h3, h4, h5⟩ := policyB_iff h
  obtain ⟨g1, g2, g3⟩ := validE_iff h5
  have a1 := effT_len p.allow
  have a2 := nameB_len h1
  have a3 := scopeT_len p.who
  have a4 := scopeT_len p.what
  have a5 := decT_len p.acts
  have a6 := exprT_len p.when g1
  simp only [polT, List.length_append, List.length_cons]
  omega
end Go.Proofs.YtaolcbhncnpldaaDoor
