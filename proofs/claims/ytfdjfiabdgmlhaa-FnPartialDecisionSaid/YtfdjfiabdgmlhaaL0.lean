/- Walks of functions of the cut by the abstract logic, and what they compute. Filled by a program of mine from a template. -/
import Derived.Test.YtfdjfiabdgmlhaaZ1
namespace Go.Proofs.Ytfdjfiabdgmlhaa
open Go Go.AL
set_option linter.unusedSimpArgs false
set_option linter.unusedVariables false

/-! ### Policies: lists, and their orders -/
theorem idxGo_cnt {α : Type} (q : α → Bool) : ∀ (l : List α) (k : Nat), (idxGo q k l).length = (l.filter q).length
  | [], _ => rfl
  | x :: l, k => by
    have := idxGo_cnt q l (k + 1)
    rw [idxGo]
    by_cases h : q x <;> simp [h, this]
theorem idxF_cnt {α : Type} (q : α → Bool) (l : List α) : (idxF q l).length = (l.filter q).length := idxGo_cnt q l 0
theorem idxF_pos {α : Type} (q : α → Bool) (l : List α) : 0 < (idxF q l).length ↔ l.any q = true := by
  rw [idxF_cnt, List.length_pos_iff, Ne, List.filter_eq_nil_iff, List.any_eq_true]
  simp
theorem idxGo_mem {α : Type} (q : α → Bool) : ∀ (l : List α) (k : Nat) (n : Int), n ∈ idxGo q k l → ∃ (i : Nat) (x : α), n = ((k + i : Nat) : Int) ∧ l[i]? = some x ∧ q x = true
  | [], _, n, h => by simp [idxGo] at h
  | x :: l, k, n, h => by
    rw [idxGo] at h
    have go : n ∈ idxGo q (k + 1) l → ∃ (i : Nat) (y : α), n = ((k + i : Nat) : Int) ∧ (x :: l)[i]? = some y ∧ q y = true := fun h => by
      obtain ⟨i, y, h1, h2, h3⟩ := idxGo_mem q l (k + 1) n h
      exact ⟨i + 1, y, by rw [h1]; congr 1; omega, by simpa using h2, h3⟩
    split at h
    · rename_i hq
      rcases List.mem_cons.1 h with rfl | h
      · exact ⟨0, x, by simp, by simp, hq⟩
      · exact go h
    · exact go h
theorem idxF_mem {α : Type} {q : α → Bool} {l : List α} {n : Int} (h : n ∈ idxF q l) : ∃ (i : Nat) (x : α), n = (i : Int) ∧ l[i]? = some x ∧ q x = true := by
  obtain ⟨i, x, h1, h2⟩ := idxGo_mem q l 0 n h
  exact ⟨i, x, by simpa using h1, h2⟩
theorem decG_allow (w : List Thing) (r : Request) (l : List Policy) : (decG w r l).allow = (l.any (isAllow w r) && !l.any (isForbid w r)) := by
  unfold decG
  have h1 := idxF_pos (isForbid w r) l
  have h2 := idxF_pos (isAllow w r) l
  split
  · rename_i h
    rw [h1] at h
    simp [h]
  · rename_i h
    rw [h1, Bool.not_eq_true] at h
    rw [h]
    simp only [Bool.not_false, Bool.and_true]
    rw [Bool.eq_iff_iff, decide_eq_true_eq, h2]
theorem polsGo_iff : ∀ (l pre : List Policy), polsGo pre l = true ↔ (∀ p ∈ l, policyB p = true ∧ p.who ≠ -2) ∧ (∀ p ∈ l, ∀ y ∈ pre, y.name ≠ p.name) ∧ (l.map Policy.name).Pairwise (· ≠ ·)
  | [], pre => by simp [polsGo]
  | x :: l, pre => by
    simp only [polsGo, Bool.and_eq_true, polsGo_iff l (pre ++ [x]), List.map_cons, List.pairwise_cons, List.mem_cons, List.mem_append, forall_eq_or_imp, Bool.not_eq_true', beq_eq_false_iff_ne]
    constructor
    · rintro ⟨⟨⟨h1, h2⟩, h3⟩, h4, h5, h6⟩
      refine ⟨⟨⟨h1, h2⟩, h4⟩, ⟨fun y hy => ?_, fun p hp y hy => h5 p hp y (.inl hy)⟩, fun a ha => ?_, h6⟩
      · have := List.any_eq_false.1 h3 y hy
        simpa using this
      · obtain ⟨p, hp, rfl⟩ := List.mem_map.1 ha
        exact h5 p hp x (.inr (by simp))
    · rintro ⟨⟨⟨h1, h2⟩, h4⟩, ⟨h7, h8⟩, h9, h6⟩
      refine ⟨⟨⟨h1, h2⟩, ?_⟩, h4, fun p hp y hy => ?_, h6⟩
      · rw [List.any_eq_false]
        intro y hy
        simpa using h7 y hy
      · rcases hy with hy | hy
        · exact h8 p hp y hy
        · simp at hy
          subst hy
          exact h9 p.name (List.mem_map.2 ⟨p, hp, rfl⟩)
theorem polsB_iff (l : List Policy) : polsB l = true ↔ ((∀ p ∈ l, policyB p = true ∧ p.who ≠ -2) ∧ (l.map Policy.name).Pairwise (· ≠ ·)) ∧ l.length ≤ 6 := by
  simp only [polsB, Bool.and_eq_true, polsGo_iff, decide_eq_true_eq, List.not_mem_nil, false_imp_iff, implies_true, true_and]
  constructor
  · rintro ⟨h1, h2⟩; exact ⟨h1, by omega⟩
  · rintro ⟨h1, h2⟩; exact ⟨h1, by omega⟩
theorem polsB_rev (l : List Policy) : polsB l.reverse = polsB l := by
  rw [Bool.eq_iff_iff, polsB_iff, polsB_iff]
  simp only [List.mem_reverse, List.length_reverse, List.map_reverse, List.pairwise_reverse]
  have : (l.map Policy.name).Pairwise (fun a b => b ≠ a) ↔ (l.map Policy.name).Pairwise (· ≠ ·) := by
    constructor <;> exact fun h => h.imp fun h => Ne.symm h
  rw [this]
theorem any_rev {α : Type} (q : α → Bool) (l : List α) : l.reverse.any q = l.any q := by simp
/-- The order of policies does not matter. -/
theorem decB_rev (w : List Thing) (r : Request) (l : List Policy) : (decB w r l.reverse).allow = (decB w r l).allow ∧ (decB w r l.reverse).why.length = (decB w r l).why.length ∧ (decB w r l.reverse).faults.length = (decB w r l).faults.length := by
  unfold decB
  rw [polsB_rev]
  split
  · have hc : ∀ q : Policy → Bool, (idxF q l.reverse).length = (idxF q l).length := fun q => by rw [idxF_cnt, idxF_cnt, List.filter_reverse, List.length_reverse]
    refine ⟨by rw [decG_allow, decG_allow, any_rev, any_rev], ?_, ?_⟩
    · unfold decG
      rw [hc]
      split <;> exact hc _
    · unfold decG
      rw [hc]
      split <;> exact hc _
  · exact ⟨rfl, rfl, rfl⟩
theorem decB_allow (w : List Thing) (r : Request) (l : List Policy) : (decB w r l).allow = (reqB w r && polsB l && (l.any (isAllow w r) && !l.any (isForbid w r))) := by
  unfold decB
  cases h1 : reqB w r <;> cases h2 : polsB l <;> simp [decG_allow]
/-- With a policy that allows behind others nothing is forbidden that was allowed. -/
theorem dec_more {w : List Thing} {r : Request} {a : List Policy} {p : Policy} (hp : p.allow = true) (h2 : polsB (a ++ [p]) = true) (h : (decB w r a).allow = true) : (decB w r (a ++ [p])).allow = true := by
  rw [decB_allow] at h ⊢
  simp only [Bool.and_eq_true] at h
  obtain ⟨⟨h3, h4⟩, h5, h6⟩ := h
  have hf : isForbid w r p = false := by simp [isForbid, hp]
  simp [h3, h2, List.any_append, h5, hf]
  simpa using h6
theorem dec_less {w : List Thing} {r : Request} {a : List Policy} {p : Policy} (hp : p.allow = false) (h1 : polsB a = true) (h : (decB w r (a ++ [p])).allow = true) : (decB w r a).allow = true := by
  rw [decB_allow] at h ⊢
  simp only [Bool.and_eq_true, List.any_append, List.any_cons, List.any_nil, Bool.or_false, Bool.not_eq_true', Bool.or_eq_false_iff, Bool.or_eq_true] at h
  obtain ⟨⟨h3, h4⟩, h5, h6, h7⟩ := h
  have hf : isAllow w r p = false := by simp [isAllow, hp]
  rw [hf] at h5
  simp [h3, h1, h6]
  simpa using h5
theorem moreL_of {w : List Thing} {a b : List Policy} : ∀ {l : List Request}, (∀ r ∈ l, (decB w r b).allow = true → (decB w r a).allow = true) → moreL w a b l = true
  | [], _ => rfl
  | r :: l, h => by
    rw [moreL, if_neg]
    · exact moreL_of fun r hr => h r (by simp [hr])
    · have := h r (by simp)
      cases h1 : (decB w r b).allow <;> simp_all
theorem moreL_iff {w : List Thing} {a b : List Policy} : ∀ {l : List Request}, moreL w a b l = true → ∀ r ∈ l, (decB w r b).allow = true → (decB w r a).allow = true
  | [], _, r, hr => by simp at hr
  | x :: l, h, r, hr => by
    rw [moreL] at h
    split at h
    · cases h
    · rename_i hn
      rcases List.mem_cons.1 hr with rfl | hr
      · intro hb; cases h1 : (decB w r a).allow <;> simp_all
      · exact moreL_iff h r hr
theorem diffL_comm (w : List Thing) (a b : List Policy) : ∀ l, diffL w a b l = diffL w b a l
  | [] => rfl
  | r :: l => by
    rw [diffL, diffL, diffL_comm w a b l]
    have : ((decB w r a).allow == (decB w r b).allow) = ((decB w r b).allow == (decB w r a).allow) := by cases (decB w r a).allow <;> cases (decB w r b).allow <;> rfl
    rw [this]
theorem okA_comm (w : List Thing) (fs : List Field) (a b : List Policy) : okA w fs a b = okA w fs b a := by
  simp only [okA]
  cases polsB a <;> cases polsB b <;> simp
theorem fdB_comm (w : List Thing) (fs : List Field) (a b : List Policy) : fdB w fs a b = fdB w fs b a := by
  unfold fdB diffB
  rw [okA_comm, diffL_comm]
theorem diffL_some {w : List Thing} {a b : List Policy} {x : Request} : ∀ {l : List Request}, diffL w a b l = some x → x ∈ l ∧ ((decB w x a).allow != (decB w x b).allow) = true
  | [], h => by simp [diffL] at h
  | r :: l, h => by
    rw [diffL] at h
    split at h
    · have := diffL_some h; exact ⟨by simp [this.1], this.2⟩
    · rename_i hb; cases h; exact ⟨by simp, by simpa using hb⟩
theorem diffL_none {w : List Thing} {a b : List Policy} : ∀ {l : List Request}, diffL w a b l = none → ∀ r ∈ l, (decB w r a).allow = (decB w r b).allow
  | [], _, r, hr => by simp at hr
  | x :: l, h, r, hr => by
    rw [diffL] at h
    split at h
    · rename_i hn
      rcases List.mem_cons.1 hr with rfl | hr
      · simpa using hn
      · exact diffL_none h r hr
    · cases h
theorem cntL_mono {w : List Thing} {a b : List Policy} : ∀ {l : List Request}, (∀ r ∈ l, (decB w r b).allow = true → (decB w r a).allow = true) → cntL w b l ≤ cntL w a l
  | [], _ => Nat.le_refl _
  | r :: l, h => by
    have ih := cntL_mono (l := l) fun r hr => h r (by simp [hr])
    have h1 := h r (by simp)
    rw [cntL, cntL]
    cases h2 : (decB w r b).allow
    · simp; split <;> omega
    · simp [h1 h2]; exact ih
theorem cntL_all {w : List Thing} {a : List Policy} : ∀ {l : List Request}, (∀ r ∈ l, (decB w r a).allow = true) → cntL w a l = l.length
  | [], _ => rfl
  | r :: l, h => by rw [cntL, if_pos (h r (by simp)), cntL_all fun r hr => h r (by simp [hr])]; simp; omega
theorem more_diff {w : List Thing} {a b : List Policy} {l : List Request} (h : moreL w a b l = true) : moreL w b a l = !(diffL w a b l).isSome := by
  have h1 := moreL_iff h
  cases hd : diffL w a b l with
  | some x =>
    obtain ⟨hx, hne⟩ := diffL_some hd
    simp only [Option.isSome_some, Bool.not_true]
    rw [← Bool.not_eq_true]
    intro h2
    have := moreL_iff h2 x hx
    have := h1 x hx
    cases h3 : (decB w x a).allow <;> cases h4 : (decB w x b).allow <;> simp_all
  | none =>
    simp only [Option.isSome_none, Bool.not_false]
    exact moreL_of fun r hr ha => by rw [← diffL_none hd r hr]; exact ha
end Go.Proofs.Ytfdjfiabdgmlhaa
