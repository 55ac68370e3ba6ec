/- Walks of functions of the cut by the abstract logic, and what they compute. Filled by a program of mine from a template. -/
import Derived.Test.YtfgalmgldidcmaaGreatR5
import Derived.Test.YtfgalmgldidcmaaGreatL0
namespace Go.Proofs.YtfgalmgldidcmaaGreat
open Go Go.AL
set_option linter.unusedSimpArgs false
set_option linter.unusedVariables false

/-- Two requests that agree on what is known. -/
structure Agree (ks : List (List UInt8)) (r r' : Request) : Prop where
  who : r'.who = r.who
  act : r'.act = r.act
  what : r'.what = r.what
  look : ∀ nm, knows ks nm = true → fieldO r'.fields nm = fieldO r.fields nm
theorem Agree.rfl' (ks : List (List UInt8)) (r : Request) : Agree ks r r := ⟨rfl, rfl, rfl, fun _ _ => rfl⟩
theorem evEs_agree {w : List Thing} {ks : List (List UInt8)} {r r' : Request} : ∀ (ps : List Expr), (∀ e ∈ ps, unkE ks e = false → evE w r' e = evE w r e) → anyEs (unkQ ks) ps = false → evEs w r' ps = evEs w r ps
  | [], _, _ => by simp [evEs]
  | e :: l, h, hu => by
    rw [anyEs_cons, Bool.or_eq_false_iff] at hu
    rw [evEs, evEs, h e (by simp) hu.1, evEs_agree l (fun x hx => h x (by simp [hx])) hu.2]
theorem evE_agree {w : List Thing} {ks : List (List UInt8)} {r r' : Request} (h : Agree ks r r') : ∀ e, unkE ks e = false → evE w r' e = evE w r e := by
  intro e
  induction e using Expr.ind with
  | h k n nm ps ih =>
    intro hu
    rw [unkE, anyE_mk, Bool.or_eq_false_iff] at hu
    rw [evE, evE, evEs_agree ps ih hu.1]
    unfold evNode
    rw [h.who, h.act, h.what]
    by_cases h7 : k = 7
    · have hk : knows ks nm = true := by
        have h2 := hu.2
        simp only [unkQ, Expr.kind, Expr.name, h7, decide_true, Bool.true_and, Bool.not_eq_false'] at h2
        exact h2
      rw [h.look nm hk]
    · simp only [h7, if_false]
theorem scope_agree {w : List Thing} {ks : List (List UInt8)} {r r' : Request} (h : Agree ks r r') (h1 : reqB w r = true) (h2 : reqB w r' = true) (p : Policy) : inScopeB w r' p = inScopeB w r p := by
  unfold inScopeB
  rw [h1, h2, h.who, h.act, h.what]
theorem appl_agree {w : List Thing} {ks : List (List UInt8)} {r r' : Request} (h : Agree ks r r') (h1 : reqB w r = true) (h2 : reqB w r' = true) (p : Policy) (hu : unkE ks p.when = false) : applB w r' p = applB w r p := by
  unfold applB
  rw [scope_agree h h1 h2, evE_agree h _ hu]
theorem appl_scope {w : List Thing} {r : Request} {p : Policy} (h : applB w r p = 1) : inScopeB w r p = true := by
  unfold applB at h
  split at h
  · assumption
  · cases h
/-- What must be is, and what is may be, for each request that agrees on what is known. -/
theorem partial_sound {w : List Thing} {ks : List (List UInt8)} {r r' : Request} {l : List Policy} (h : Agree ks r r') (h1 : reqB w r = true) (h2 : reqB w r' = true) (hp : polsB l = true) :
    (mustB w r ks l = true → (decB w r' l).allow = true) ∧ ((decB w r' l).allow = true → mayB w r ks l = true) := by
  have key : ∀ p, unkE ks p.when = false → applB w r' p = applB w r p := fun p hu => appl_agree h h1 h2 p hu
  have sc : ∀ p, inScopeB w r' p = inScopeB w r p := fun p => scope_agree h h1 h2 p
  rw [decB_allow, h2, hp]
  unfold mustB mayB okPD
  rw [h1, hp]
  simp only [Bool.true_and, Bool.and_eq_true, List.any_eq_true, Bool.not_eq_true', List.any_eq_false]
  constructor
  · rintro ⟨⟨p, hpl, hm⟩, hf⟩
    simp only [amQ, mustQ, Bool.and_eq_true, Bool.not_eq_true', beq_iff_eq] at hm
    refine ⟨⟨p, hpl, ?_⟩, fun q hq hfq => ?_⟩
    · simp only [isAllow, Bool.and_eq_true, decide_eq_true_eq]
      exact ⟨by rw [key p hm.2.1.2]; exact hm.2.2, hm.1⟩
    · simp only [isForbid, Bool.and_eq_true, decide_eq_true_eq, Bool.not_eq_true'] at hfq
      apply hf q hq
      have hs := appl_scope hfq.1
      rw [sc q] at hs
      simp only [fMQ, mayP, hfq.2, hs, Bool.not_false, Bool.true_and, Bool.or_eq_true, beq_iff_eq]
      cases hu : unkE ks q.when
      · right; rw [← key q hu]; exact hfq.1
      · left; rfl
  · rintro ⟨⟨p, hpl, hm⟩, hf⟩
    simp only [isAllow, Bool.and_eq_true, decide_eq_true_eq] at hm
    have hs := appl_scope hm.1
    rw [sc p] at hs
    refine ⟨⟨p, hpl, ?_⟩, fun q hq hfq => ?_⟩
    · simp only [aMQ, mayP, hm.2, hs, Bool.true_and, Bool.or_eq_true, beq_iff_eq]
      cases hu : unkE ks p.when
      · right; rw [← key p hu]; exact hm.1
      · left; rfl
    · simp only [fmQ, mustQ, Bool.and_eq_true, Bool.not_eq_true', beq_iff_eq] at hfq
      apply hf q hq
      simp only [isForbid, Bool.and_eq_true, decide_eq_true_eq, Bool.not_eq_true']
      exact ⟨by rw [key q hfq.2.1.2]; exact hfq.2.2, hfq.1⟩
end Go.Proofs.YtfgalmgldidcmaaGreat
