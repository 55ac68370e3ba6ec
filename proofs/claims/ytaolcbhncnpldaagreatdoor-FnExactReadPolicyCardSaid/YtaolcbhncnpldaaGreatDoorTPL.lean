/- Walks of functions of the cut by the abstract logic, and what they compute. Filled by a program of mine from a template. -/
import Derived.Test.YtaolcbhncnpldaaGreatDoorTRL
import Derived.Test.YtaolcbhncnpldaaGreatDoorTPT
namespace Go.Proofs.YtaolcbhncnpldaaGreatDoor
open Go Go.AL
set_option linter.unusedSimpArgs false
set_option linter.unusedVariables false
/-! ### Reading a policy: plain facts -/
/-- The word before a blank, and what is behind the blank. -/
def bw (s : List UInt8) : List UInt8 := s.takeWhile fun b => !(b == 32)
def br (s : List UInt8) : List UInt8 := (s.dropWhile fun b => !(b == 32)).tail
theorem bw_app {w : List UInt8} (h : ∀ b ∈ w, b ≠ 32) (r : List UInt8) : bw (w ++ 32 :: r) = w ∧ br (w ++ 32 :: r) = r := by
  induction w with
  | nil => simp [bw, br]
  | cons x w ih =>
    have hx := h x (by simp)
    have := ih fun b hb => h b (by simp [hb])
    simp only [bw, br, List.cons_append] at this ⊢
    rw [List.takeWhile_cons_of_pos (by simp [hx]), List.dropWhile_cons_of_pos (by simp [hx]), this.1, this.2]
    exact ⟨rfl, rfl⟩
/-- The five words of a policy's text, and what is behind them. -/
def w0 (s : List UInt8) := bw s
def r0 (s : List UInt8) := br s
def r1 (s : List UInt8) := br (br s)
def r2 (s : List UInt8) := br (br (br s))
def r3 (s : List UInt8) := br (br (br (br s)))
def r4 (s : List UInt8) := br (br (br (br (br s))))
theorem pol_words {p : Policy} (h : policyB p = true) : bw (polT p) = effT p.allow ∧ bw (r0 (polT p)) = p.name ∧ bw (r1 (polT p)) = scopeT p.who ∧ bw (r2 (polT p)) = scopeT p.what ∧ bw (r3 (polT p)) = decT p.acts ∧ r4 (polT p) = exprT p.when := by
  obtain ⟨h1, h2, h3, h4, h5⟩ := policyB_iff h
  have e0 := bw_app (effT_blank p.allow) (p.name ++ 32 :: (scopeT p.who ++ 32 :: (scopeT p.what ++ 32 :: (decT p.acts ++ 32 :: exprT p.when))))
  have e1 := bw_app (name_blank h1) (scopeT p.who ++ 32 :: (scopeT p.what ++ 32 :: (decT p.acts ++ 32 :: exprT p.when)))
  have e2 := bw_app (scopeT_blank (n := p.who) (by omega)) (scopeT p.what ++ 32 :: (decT p.acts ++ 32 :: exprT p.when))
  have e3 := bw_app (scopeT_blank (n := p.what) (by omega)) (decT p.acts ++ 32 :: exprT p.when)
  have e4 := bw_app (dec_blank (n := p.acts) (by omega)) (exprT p.when)
  simp only [polT, r0, r1, r2, r3, r4, e0.1, e0.2, e1.1, e1.2, e2.1, e2.2, e3.1, e3.2, e4.1, e4.2]
  exact ⟨trivial, trivial, trivial, trivial, trivial, trivial⟩
open Classical in
/-- The valid expression that has a text. -/
noncomputable def rdE (s : List UInt8) : Option Expr := if h : ∃ e, validE e = true ∧ exprT e = s then some h.choose else none
theorem rdE_text {e : Expr} (h : validE e = true) : rdE (exprT e) = some e := by
  have hx : ∃ x, validE x = true ∧ exprT x = exprT e := ⟨e, h, rfl⟩
  unfold rdE
  rw [dif_pos hx]
  have := hx.choose_spec
  rw [exprT_inj (validE_iff this.1).1 (validE_iff h).1 this.2]
theorem rdE_some {s : List UInt8} {e : Expr} (h : rdE s = some e) : validE e = true ∧ exprT e = s := by
  unfold rdE at h
  split at h
  · rename_i hx
    rw [← Option.some.inj h]; exact hx.choose_spec
  · cases h
theorem exprT_ne {e : Expr} (h : goodE e = true) : exprT e ≠ [] := by
  obtain ⟨k, n, nm, ps⟩ := e
  rw [goodE_mk, Bool.and_eq_true] at h
  by_cases hk : 7 ≤ k
  · intro e
    have := nodeT (n := n) (nm := nm) (ps := ps) hk []
    rw [e] at this; simp at this
  · exact (leaf_dlm h.1 (by omega)).2
/-- What the program's reader gives for a text decides what ReadExpr gives. -/
theorem rdX (s : List UInt8) : rdE s = (match readX 7 s with | some (e, r) => if r = [] ∧ validE e = true ∧ exprT e = s then some e else none | none => none) := by
  cases hr : rdE s with
  | some e =>
    obtain ⟨h1, h2⟩ := rdE_some hr
    have h3 := validE_iff h1
    have := readX_text 7 e h3.1 h3.2.2 [] dlmd_nil
    rw [List.append_nil, h2] at this
    rw [this]
    dsimp only
    rw [if_pos ⟨rfl, h1, h2⟩]
  | none =>
    split
    · split
      · rename_i e r hx h
        have := rdE_text h.2.1
        rw [h.2.2, hr] at this
        cases this
      · rfl
    · rfl
theorem rdY (s : List UInt8) : rdE s = (match readY 8 s with | some (e, r) => if r = [] ∧ validE e = true ∧ exprT e = s then some e else none | none => none) := by
  cases hr : rdE s with
  | some e =>
    obtain ⟨h1, h2⟩ := rdE_some hr
    have h3 := validE_iff h1
    have := readY_text 8 e h3.1 (by omega) [] dlmd_nil
    rw [List.append_nil, h2] at this
    rw [this]
    dsimp only
    rw [if_pos ⟨rfl, h1, h2⟩]
  | none =>
    split
    · split
      · rename_i e r hx h
        have := rdE_text h.2.1
        rw [h.2.2, hr] at this
        cases this
      · rfl
    · rfl
open Classical in
/-- The valid policy that has a text. -/
noncomputable def rdP (s : List UInt8) : Option Policy := if h : ∃ p, policyB p = true ∧ polT p = s then some h.choose else none
theorem polT_inj {a b : Policy} (ha : policyB a = true) (hb : policyB b = true) (h : polT a = polT b) : a = b := by
  obtain ⟨a1, a2, a3, a4, a5, a6⟩ := pol_words ha
  obtain ⟨b1, b2, b3, b4, b5, b6⟩ := pol_words hb
  rw [h] at a1 a2 a3 a4 a5 a6
  obtain ⟨h1, h2, h3, h4, h5⟩ := policyB_iff ha
  obtain ⟨g1, g2, g3, g4, g5⟩ := policyB_iff hb
  have e0 : a.allow = b.allow := by rw [← effT_eq a.allow, ← effT_eq b.allow, ← a1, ← b1]
  have e1 : a.name = b.name := by rw [← a2, ← b2]
  have e2 := scopeT_inj (by omega) (by omega) (a3.symm.trans b3)
  have e3 := scopeT_inj (by omega) (by omega) (a4.symm.trans b4)
  have e4 := decT_inj (by omega) (by omega) (a5.symm.trans b5)
  have e5 := exprT_inj (validE_iff h5).1 (validE_iff g5).1 (a6.symm.trans b6)
  cases a; cases b
  simp only at e0 e1 e2 e3 e4 e5
  subst e0 e1 e2 e3 e4 e5
  rfl
theorem rdP_text {p : Policy} (h : policyB p = true) : rdP (polT p) = some p := by
  have hx : ∃ x, policyB x = true ∧ polT x = polT p := ⟨p, h, rfl⟩
  unfold rdP
  rw [dif_pos hx]
  have := hx.choose_spec
  rw [polT_inj this.1 h this.2]
theorem rdP_some {s : List UInt8} {p : Policy} (h : rdP s = some p) : policyB p = true ∧ polT p = s := by
  unfold rdP at h
  split at h
  · rename_i hx
    rw [← Option.some.inj h]; exact hx.choose_spec
  · cases h
theorem rdP_none {s : List UInt8} (h : ∀ p, policyB p = true → polT p ≠ s) : rdP s = none := by
  unfold rdP
  rw [dif_neg]
  rintro ⟨e, h1, h2⟩
  exact h e h1 h2
end Go.Proofs.YtaolcbhncnpldaaGreatDoor
